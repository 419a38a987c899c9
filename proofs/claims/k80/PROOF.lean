import PyProof.Rows.All
import Wide.All
import OpenK.AllK
import Wide.FinOn
import PySem.Challenge.RW_pairedboards_k80_whole_positions_of_orde
import KE.OsGo
import HandS.ForMost
import HandS.ForExc
import HandS.IsInst
import HandS.Style
import HandS.Lambda
import HandS.Iter
import HandS.Comp
import HandS.ExcOwn
import HandS.WordsExc
import HandS.WideBits
import HandS.Deep
import HandS.More
import PyProof.ReprRoads
import PyProof.Draws
import KE.KExcSuper
import HandS.ExcInit
import HandS.ExcIs
import HandS.ExcSuper
import HandS.ExcField
import HandS.ExcValue
import HandS.Ends
import HandS.NoneIn
import PyProof.ReprLen
import PyProof.Rows.ReprOcc
import PyProof.StrLawsTight
import HandS.SortInts
import HandS.SortRule
import HandS.TupAny
import HandS.Dict
import HandS.Conv
import KE.KEqDict
import PyProof.P3In
import HandS.EndTab
import KE.KNestM
import PyProof.SumAny
set_option Elab.async false
set_option linter.all false
set_option maxRecDepth 100000
set_option autoImplicit false
set_option maxHeartbeats 0
/-! Plain data, who may change it, the configuration of a frame. -/
namespace Im
open PySem PySem.Spec PyProof.Rows L2
abbrev St := L2.St
inductive D where
  | non | bl (b : Bool) | int (i : Int) | str (x : Str)
  | tup (xs : List D) | lst (xs : List D)
  | edict
  | fn (x : Str)
  | exc (c : Str) (v : D)
  | scr (ns : List Int)
  | clo (n : Nat) (xs : List D)
  | tl (n : Nat) (xs : List D)
  deriving Inhabited
/-- may be changed by the program -/
def Chg : HO → Prop
  | .lst _ | .dK _ | .dT _ | .set _ _ | .ins _ _ _ => True
  | _ => False
/-- may be changed by the program, or a table -/
def ChgT : HO → Prop
  | .lst _ | .dK _ | .dT _ | .set _ _ | .ins _ _ _ | .tbl _ => True
  | _ => False
/-- no table -/
def NT (o : HO) : Prop := ∀ ps, o ≠ .tbl ps
theorem Chg.nt {o : HO} (h : Chg o) : NT o := fun ps z => by subst z; exact h
theorem Chg.t {o : HO} (h : Chg o) : ChgT o := by cases o <;> first | trivial | exact h.elim
theorem ncg {o : HO} (h : ¬ ChgT o) : ¬ Chg o := fun z => h z.t
theorem nct {o : HO} (h : ¬ ChgT o) : NT o := fun ps z => by subst z; exact h trivial
theorem ncT {o : HO} (h : ¬ Chg o) (t : NT o) : ¬ ChgT o := by cases o <;> first | exact h | exact fun _ => h trivial | exact fun _ => t _ rfl
/-- kept; a table is a table still -/
def Kp (o : HO) (x : Option HO) : Prop := x = some o ∨ ∃ ps ps', o = .tbl ps ∧ x = some (.tbl ps')
theorem Kp.eq {o : HO} {x : Option HO} (h : Kp o x) (t : NT o) : x = some o := by
  rcases h with h | ⟨ps, _, h, _⟩
  · exact h
  · exact absurd h (t ps)
theorem Kp.ex {o : HO} {x : Option HO} (h : Kp o x) : ∃ o', x = some o' := by
  rcases h with h | ⟨_, _, _, h⟩ <;> exact ⟨_, h⟩
theorem Kp.trans {o : HO} {x y : Option HO} (h : Kp o x) (f : ∀ o1, x = some o1 → Kp o1 y) : Kp o y := by
  rcases h with h | ⟨ps, ps', e, h⟩
  · exact f _ h
  · rcases f _ h with g | ⟨_, q, _, g⟩
    · exact .inr ⟨ps, ps', e, g⟩
    · exact .inr ⟨ps, q, e, g⟩
/-- the tables: T, and no others -/
def TabO (T : List (Addr × Str)) (H : Hp) : Prop := LamX.Tabs T H ∧ ∀ (a : Addr) (ps : Array Value), H a = some (.tbl ps) → ∃ q, (a, q) ∈ T
/-- the script, where it stands -/
def ScrAt (K : PySem.W.Frag) (H : Hp) (a : Addr) (ns : List Int) : Prop := (∃ o, H a = some (.frz o (.lst (ns.map V.int)))) ∨
  ∃ (o : Obj) (its : Array Value) (n : Nat), K.lookup a = some o ∧ o.cls = .type "list" ∧ o.dict = none ∧ o.data = .seq its n ∧ its.size ≤ sizeLine ∧ Vals (ns.map V.int) its.toList
theorem ScrAt.sq {K : PySem.W.Frag} {H : Hp} {a : Addr} {ns : List Int} (h : ScrAt K H a ns) : SqL K H a (ns.map V.int) := by
  rcases h with ⟨o, h⟩ | h
  · exact .inl (.inr ⟨o, h⟩)
  · exact .inr h
/-- all but what F says stays -/
def Stay (F : Addr → Prop) (H H' : Hp) : Prop := ∀ a o, H a = some o → ¬ F a → Kp o (H' a)
/-- what never changes stays -/
def StayI (H H' : Hp) : Prop := ∀ a o, H a = some o → ¬ ChgT o → H' a = some o
structure GI where
  K : PySem.W.Frag
  T : List (Addr × Str)
  fn : Str → Option Addr
  cls : Str → Option Addr
  exc : Hp → Addr → Str → V → Prop
  clo : Hp → Addr → Nat → List V → Prop
  excS : ∀ H H' a c v, StayI H H' → exc H a c v → exc H' a c v
  cloS : ∀ H H' a n vs, StayI H H' → clo H a n vs → clo H' a n vs
section
variable (G : GI) (Z : Addr → Prop) (H : Hp)
mutual
/-- v is d in the heap H: lists down to the depth k are owned (at fp), the others stand still (in Z) -/
inductive Own : Nat → V → D → List Addr → Prop
  | non {k : Nat} : Own k .non .non []
  | bl {k : Nat} {b : Bool} : Own k (.bl b) (.bl b) []
  | int {k : Nat} {i : Int} : Own k (.int i) (.int i) []
  | str {k : Nat} {x : Str} : Own k (.str x) (.str x) []
  | tup {k : Nat} {a : Addr} {vs : List V} {ds : List D} {fp : List Addr} : H a = some (.tup vs) → OwnL k vs ds fp → Own k (.ref a) (.tup ds) fp
  | lst {a : Addr} {vs : List V} {ds : List D} : Z a → H a = some (.lst vs) → OwnL 0 vs ds [] → Own 0 (.ref a) (.lst ds) []
  | own {k : Nat} {a : Addr} {vs : List V} {ds : List D} {fp : List Addr} : H a = some (.lst vs) → OwnL k vs ds fp → Own (k + 1) (.ref a) (.lst ds) (a :: fp)
  | ed0 {a : Addr} : Z a → H a = some (.dK []) → Own 0 (.ref a) .edict []
  | edS {k : Nat} {a : Addr} : H a = some (.dK []) → Own (k + 1) (.ref a) .edict [a]
  | scr {k : Nat} {a : Addr} {ns : List Int} : ScrAt G.K H a ns → Own k (.ref a) (.scr ns) []
  | fn {k : Nat} {x : Str} {f : Addr} : G.fn x = some f → Own k (.ref f) (.fn x) []
  | exc {k : Nat} {a : Addr} {c : Str} {v : V} {d : D} : G.exc H a c v → Own 0 v d [] → Own k (.ref a) (.exc c d) []
  | clo {k : Nat} {a : Addr} {n : Nat} {vs : List V} {ds : List D} : G.clo H a n vs → OwnL 0 vs ds [] → Own k (.ref a) (.clo n ds) []
  | tag {k : Nat} {a : Addr} {n : Nat} {ds : List D} {fp : List Addr} : G.clo H a n [] → Own k (.ref a) (.lst ds) fp → Own k (.ref a) (.tl n ds) fp
inductive OwnL : Nat → List V → List D → List Addr → Prop
  | nil {k : Nat} : OwnL k [] [] []
  | cons {k : Nat} {v : V} {d : D} {vs : List V} {ds : List D} {fp fps : List Addr} : Own k v d fp → OwnL k vs ds fps → OwnL k (v :: vs) (d :: ds) (fp ++ fps)
end
end
section
variable {G : GI} {Z Z' : Addr → Prop} {H H' : Hp}
/-- at depth 0 nothing is owned -/
theorem own_zero : ∀ {k : Nat} {v : V} {d : D} {fp : List Addr}, Own G Z H k v d fp → k = 0 → fp = [] := by
  intro k v d fp h
  induction h using Own.rec (motive_2 := fun k vs ds fp _ => k = 0 → fp = []) with
  | non | bl | int | str | fn | scr | ed0 => intro _; rfl
  | lst => intro _; rfl
  | exc => intro _; rfl
  | clo => intro _; rfl
  | tag _ _ ih => exact ih
  | tup _ _ ih => exact ih
  | own _ _ ih => intro e; cases e
  | edS => intro e; cases e
  | nil => rfl
  | cons _ _ ih1 ih2 => rename_i e; rw [ih1 e, ih2 e]; rfl
theorem Own.z0 {v : V} {d : D} {fp : List Addr} (h : Own G Z H 0 v d fp) : fp = [] := own_zero h rfl
theorem OwnL.z0 {vs : List V} {ds : List D} {fp : List Addr} (h : OwnL G Z H 0 vs ds fp) : fp = [] := by
  suffices ∀ {k : Nat} {vs : List V} {ds : List D} {fp : List Addr}, OwnL G Z H k vs ds fp → k = 0 → fp = [] from this h rfl
  intro k vs ds fp h e
  induction vs generalizing ds fp with
  | nil => cases h; rfl
  | cons v vs ih =>
    cases h with
    | cons h1 h2 => rw [own_zero h1 e, ih h2]; rfl
/-- what is owned can be changed, and stands -/
theorem Own.chg : ∀ {k : Nat} {v : V} {d : D} {fp : List Addr}, Own G Z H k v d fp → ∀ a ∈ fp, ∃ o, H a = some o ∧ Chg o := by
  intro k v d fp h
  induction h using Own.rec (motive_2 := fun k vs ds fp _ => ∀ a ∈ fp, ∃ o, H a = some o ∧ Chg o) with
  | non | bl | int | str | fn | scr | ed0 => intro a h; cases h
  | lst => intro a h; cases h
  | exc => intro a h; cases h
  | clo => intro a h; cases h
  | tag _ _ ih => exact ih
  | tup _ _ ih => exact ih
  | own e _ ih =>
    intro a h
    rcases List.mem_cons.mp h with rfl | h
    · exact ⟨_, e, trivial⟩
    · exact ih a h
  | edS e =>
    intro a h
    rcases List.mem_cons.mp h with rfl | h
    · exact ⟨_, e, trivial⟩
    · cases h
  | nil => rename_i a h; cases h
  | cons _ _ ih1 ih2 =>
    rename_i a h
    rcases List.mem_append.mp h with h | h
    · exact ih1 a h
    · exact ih2 a h
theorem OwnL.chg {k : Nat} {vs : List V} {ds : List D} {fp : List Addr} (h : OwnL G Z H k vs ds fp) : ∀ a ∈ fp, ∃ o, H a = some o ∧ Chg o := by
  induction vs generalizing ds fp with
  | nil => cases h; intro a h; cases h
  | cons v vs ih =>
    cases h with
    | cons h1 h2 =>
      intro a h
      rcases List.mem_append.mp h with h | h
      · exact h1.chg a h
      · exact ih h2 a h
/-- kept, where Z, fp and what never changes is kept -/
theorem own_keep (hI : StayI H H') (hz : ∀ a, Z a → Z' a ∧ ∀ o, H a = some o → H' a = some o) : ∀ {k : Nat} {v : V} {d : D} {fp : List Addr}, Own G Z H k v d fp → (∀ a ∈ fp, ∀ o, H a = some o → H' a = some o) → Own G Z' H' k v d fp := by
  intro k v d fp h
  induction h using Own.rec (motive_2 := fun k vs ds fp _ => (∀ a ∈ fp, ∀ o, H a = some o → H' a = some o) → OwnL G Z' H' k vs ds fp) with
  | non => intro _; exact .non
  | bl => intro _; exact .bl
  | int => intro _; exact .int
  | str => intro _; exact .str
  | fn e => intro _; exact .fn e
  | scr e =>
    intro _
    rcases e with ⟨o, e⟩ | e
    · exact .scr (.inl ⟨o, hI _ _ e fun z => z⟩)
    · exact .scr (.inr e)
  | ed0 z e => intro _; exact .ed0 (hz _ z).1 ((hz _ z).2 _ e)
  | edS e => intro hf; exact .edS (hf _ List.mem_cons_self _ e)
  | lst z e _ ih =>
    intro hf
    refine .lst (hz _ z).1 ?_ (ih hf)
    exact (hz _ z).2 _ e
  | exc e _ ih => intro hf; exact .exc (G.excS _ _ _ _ _ hI e) (ih hf)
  | clo e _ ih => intro hf; exact .clo (G.cloS _ _ _ _ _ hI e) (ih hf)
  | tag e _ ih => intro hf; exact .tag (G.cloS _ _ _ _ _ hI e) (ih hf)
  | tup e _ ih => intro hf; exact .tup (hI _ _ e (fun z => z)) (ih hf)
  | own e _ ih => intro hf; exact .own (hf _ List.mem_cons_self _ e) (ih fun a ha => hf a (List.mem_cons_of_mem _ ha))
  | nil => exact .nil
  | cons _ _ ih1 ih2 => rename_i hf; exact .cons (ih1 fun a ha => hf a (List.mem_append_left _ ha)) (ih2 fun a ha => hf a (List.mem_append_right _ ha))
theorem ownL_keep (hI : StayI H H') (hz : ∀ a, Z a → Z' a ∧ ∀ o, H a = some o → H' a = some o) {k : Nat} {vs : List V} {ds : List D} {fp : List Addr} (h : OwnL G Z H k vs ds fp) (hf : ∀ a ∈ fp, ∀ o, H a = some o → H' a = some o) : OwnL G Z' H' k vs ds fp := by
  induction vs generalizing ds fp with
  | nil => cases h; exact .nil
  | cons v vs ih =>
    cases h with
    | cons h1 h2 => exact .cons (own_keep hI hz h1 fun a ha => hf a (List.mem_append_left _ ha)) (ih h2 fun a ha => hf a (List.mem_append_right _ ha))
/-- more stands still -/
theorem Own.monoZ {k : Nat} {v : V} {d : D} {fp : List Addr} (h : Own G Z H k v d fp) (hz : ∀ a, Z a → Z' a) : Own G Z' H k v d fp := own_keep (fun _ _ e _ => e) (fun a z => ⟨hz a z, fun _ e => e⟩) h fun _ _ _ e => e
theorem OwnL.monoZ {k : Nat} {vs : List V} {ds : List D} {fp : List Addr} (h : OwnL G Z H k vs ds fp) (hz : ∀ a, Z a → Z' a) : OwnL G Z' H k vs ds fp := ownL_keep (fun _ _ e _ => e) (fun a z => ⟨hz a z, fun _ e => e⟩) h fun _ _ _ e => e
/-- given up: all of it stands still from now on -/
theorem Own.freeze {k : Nat} {v : V} {d : D} {fp : List Addr} (h : Own G Z H k v d fp) : Own G (fun a => Z a ∨ a ∈ fp) H 0 v d [] := by
  induction h using Own.rec (motive_2 := fun k vs ds fp _ => OwnL G (fun a => Z a ∨ a ∈ fp) H 0 vs ds []) with
  | non => exact .non
  | bl => exact .bl
  | int => exact .int
  | str => exact .str
  | fn e => exact .fn e
  | scr e => exact .scr e
  | ed0 z e => exact .ed0 (.inl z) e
  | edS e => exact .ed0 (.inr List.mem_cons_self) e
  | lst z e _ ih => exact .lst (.inl z) e ih
  | exc e _ ih => exact .exc e ih
  | clo e _ ih => exact .clo e ih
  | tag e _ ih => exact .tag e ih
  | tup e _ ih => exact .tup e ih
  | own e _ ih => exact .lst (.inr List.mem_cons_self) e (ih.monoZ fun a z => z.elim .inl fun m => .inr (List.mem_cons_of_mem _ m))
  | nil => exact .nil
  | cons _ _ ih1 ih2 => exact .cons (ih1.monoZ fun a z => z.elim .inl fun m => .inr (List.mem_append_left _ m)) (ih2.monoZ fun a z => z.elim .inl fun m => .inr (List.mem_append_right _ m))
theorem OwnL.freeze {k : Nat} {vs : List V} {ds : List D} {fp : List Addr} (h : OwnL G Z H k vs ds fp) : OwnL G (fun a => Z a ∨ a ∈ fp) H 0 vs ds [] := by
  induction vs generalizing ds fp with
  | nil => cases h; exact .nil
  | cons v vs ih =>
    cases h with
    | cons h1 h2 => exact .cons (h1.freeze.monoZ fun a z => z.elim .inl fun m => .inr (List.mem_append_left _ m)) ((ih h2).monoZ fun a z => z.elim .inl fun m => .inr (List.mem_append_right _ m))
/-- given up below the depth j -/
theorem Own.lower {k : Nat} {v : V} {d : D} {fp : List Addr} (h : Own G Z H k v d fp) : ∀ {j : Nat}, j ≤ k → fp.Nodup → ∃ fp', fp'.Sublist fp ∧ Own G (fun a => Z a ∨ (a ∈ fp ∧ a ∉ fp')) H j v d fp' := by
  induction h using Own.rec (motive_2 := fun k vs ds fp _ => ∀ {j : Nat}, j ≤ k → fp.Nodup → ∃ fp', fp'.Sublist fp ∧ OwnL G (fun a => Z a ∨ (a ∈ fp ∧ a ∉ fp')) H j vs ds fp') with
  | non => intro j _ _; exact ⟨_, .refl _, .non⟩
  | bl => intro j _ _; exact ⟨_, .refl _, .bl⟩
  | int => intro j _ _; exact ⟨_, .refl _, .int⟩
  | str => intro j _ _; exact ⟨_, .refl _, .str⟩
  | fn e => intro j _ _; exact ⟨_, .refl _, .fn e⟩
  | scr e => intro j _ _; exact ⟨_, .refl _, .scr e⟩
  | ed0 z e => intro j hj _; obtain rfl : j = 0 := by omega
               exact ⟨_, .refl _, .ed0 (.inl z) e⟩
  | edS e =>
    intro j hj _
    cases j with
    | zero => exact ⟨[], List.nil_sublist _, .ed0 (.inr ⟨List.mem_cons_self, by simp⟩) e⟩
    | succ j => exact ⟨_, .refl _, .edS e⟩
  | lst z e h ih =>
    intro j hj _
    obtain rfl : j = 0 := by omega
    exact ⟨[], .refl _, .lst (.inl z) e (h.monoZ fun _ z => .inl z)⟩
  | exc e h ih => intro j _ _; exact ⟨_, .refl _, .exc e (h.monoZ fun _ z => .inl z)⟩
  | clo e h ih => intro j _ _; exact ⟨_, .refl _, .clo e (h.monoZ fun _ z => .inl z)⟩
  | tag e _ ih =>
    intro j hj nd
    obtain ⟨fp', s, b⟩ := ih hj nd
    exact ⟨fp', s, .tag e b⟩
  | tup e _ ih =>
    intro j hj nd
    obtain ⟨fp', a, b⟩ := ih hj nd
    exact ⟨fp', a, .tup e b⟩
  | @own k a vs ds fp e h ih =>
    intro j hj nd
    have nd' := List.nodup_cons.mp nd
    cases j with
    | zero =>
      refine ⟨[], List.nil_sublist _, .lst (.inr ⟨List.mem_cons_self, by simp⟩) e ?_⟩
      exact h.freeze.monoZ fun b z => z.elim .inl fun m => .inr ⟨List.mem_cons_of_mem _ m, by simp⟩
    | succ j =>
      obtain ⟨fp', s, b⟩ := ih (Nat.le_of_succ_le_succ hj) nd'.2
      refine ⟨a :: fp', s.cons_cons a, .own e (b.monoZ fun c z => z.elim .inl fun m => .inr ⟨List.mem_cons_of_mem _ m.1, fun z => ?_⟩)⟩
      rcases List.mem_cons.mp z with rfl | z
      · exact nd'.1 m.1
      · exact m.2 z
  | nil => exact ⟨_, .refl _, .nil⟩
  | cons _ _ ih1 ih2 =>
    rename_i fp1 fp2 _ _ j hj nd
    have n := List.nodup_append.mp nd
    obtain ⟨f1, s1, b1⟩ := ih1 hj n.1
    obtain ⟨f2, s2, b2⟩ := ih2 hj n.2.1
    refine ⟨f1 ++ f2, s1.append s2, .cons (b1.monoZ fun a z => z.elim .inl fun m => .inr ⟨List.mem_append_left _ m.1, fun z => ?_⟩) (b2.monoZ fun a z => z.elim .inl fun m => .inr ⟨List.mem_append_right _ m.1, fun z => ?_⟩)⟩
    · rcases List.mem_append.mp z with z | z
      · exact m.2 z
      · exact n.2.2 a m.1 a (s2.subset z) rfl
    · rcases List.mem_append.mp z with z | z
      · exact n.2.2 a (s1.subset z) a m.1 rfl
      · exact m.2 z
theorem OwnL.get : ∀ {k : Nat} {vs : List V} {ds : List D} {fp : List Addr} {i : Nat} {d : D}, OwnL G Z H k vs ds fp → ds[i]? = some d → ∃ v fp', vs[i]? = some v ∧ Own G Z H k v d fp' ∧ fp'.Sublist fp := by
  intro k vs
  induction vs with
  | nil => intro ds fp i d h e; cases h; simp at e
  | cons v vs ih =>
    intro ds fp i d h e
    cases h with
    | cons h1 h2 =>
      cases i with
      | zero =>
        simp only [List.getElem?_cons_zero, Option.some.injEq] at e
        subst e
        exact ⟨v, _, rfl, h1, List.sublist_append_left _ _⟩
      | succ i =>
        obtain ⟨v', fp', a, b, c⟩ := ih h2 (by simpa using e)
        exact ⟨v', fp', by simpa using a, b, c.trans (List.sublist_append_right _ _)⟩
theorem OwnL.len : ∀ {k : Nat} {vs : List V} {ds : List D} {fp : List Addr}, OwnL G Z H k vs ds fp → vs.length = ds.length := by
  intro k vs
  induction vs with
  | nil => intro ds fp h; cases h; rfl
  | cons v vs ih => intro ds fp h; cases h with | cons h1 h2 => simp [ih h2]
end
end Im
/-! The configuration of a frame: each name's plain value, who owns what; the base it is told from. -/
namespace Im
open PySem PySem.Spec PyProof.Rows L2
abbrev En := List (Option D)
structure Bs where
  H : Hp
  Z : Addr → Prop
  F : Addr → Prop
  Lk : Nat → Addr → Prop
  pins : List (Nat × V)
structure BOk (B : Bs) (lk : List Nat) : Prop where
  fch : ∀ a, B.F a → ∃ o, B.H a = some o ∧ Chg o
  lch : ∀ i a, B.Lk i a → ∃ o, B.H a = some o ∧ Chg o
  lki : ∀ i a, B.Lk i a → i ∈ lk
  zt : ∀ a, B.Z a → ∃ o, B.H a = some o ∧ NT o
  zf : ∀ a, B.Z a → ¬ B.F a
  zl : ∀ i a, B.Z a → ¬ B.Lk i a
structure Cfg (G : GI) (B : Bs) (lk : List Nat) (Z : Addr → Prop) (σ : St) (H : Hp) (Γ : List Nat) (en : En) (fps : Nat → List Addr) : Prop where
  bok : BOk B lk
  len : σ.length = en.length
  rep : ∀ i d, en[i]? = some (some d) → ∃ v, σ[i]? = some (some v) ∧ Own G Z H (Γ.getD i 0) v d (fps i)
  emp : ∀ i, (∀ d, en[i]? ≠ some (some d)) → fps i = []
  nd : ∀ i, (fps i).Nodup
  dis : ∀ i j a, a ∈ fps i → a ∈ fps j → i = j
  nz : ∀ i a, a ∈ fps i → ¬ Z a
  zt : ∀ a, Z a → ∃ o, H a = some o ∧ NT o
  tab : TabO G.T H
  keep : Stay B.F B.H H
  newf : ∀ i a, a ∈ fps i → B.F a ∨ B.Lk i a ∨ B.H a = none
  lkd : ∀ i j a, a ∈ fps i → B.Lk j a → i = j
  lks : ∀ i a, B.Lk i a → Z a ∨ a ∈ fps i
  zb : ∀ a, B.Z a → Z a
  zn : ∀ a, Z a → B.Z a ∨ B.F a ∨ (∃ i, B.Lk i a) ∨ B.H a = none
  pin : ∀ p ∈ B.pins, σ[p.1]? = some (some p.2)
theorem tabs_upd {T : List (Addr × Str)} {H : Hp} {p : Addr} {o o1 : HO} (h : TabO T H) (hp : H p = some o1) (hc : Chg o1) (ho : NT o) : TabO T (upd H p o) := by
  refine ⟨fun x hx => ?_, fun a ps e => ?_⟩
  · obtain ⟨ps, h1, h2, h3⟩ := h.1 x hx
    have ne : ∀ c u, H c = some u → ¬ Chg u → c ≠ p := fun c u e n z => by rw [z, hp] at e; cases e; exact n hc
    refine ⟨ps, by rw [upd_ne (ne _ _ h1 fun z => z)]; exact h1, h2, fun pos cv hcv => ?_⟩
    obtain ⟨c, e1, e2⟩ := h3 pos cv hcv
    exact ⟨c, e1, by rw [upd_ne (ne _ _ e2 fun z => z)]; exact e2⟩
  · by_cases q : a = p
    · rw [q, upd_same] at e
      exact absurd (Option.some.inj e) (ho ps)
    · rw [upd_ne q] at e
      exact h.2 a ps e
theorem tabs_new {T : List (Addr × Str)} {H : Hp} {p : Addr} {o : HO} (h : TabO T H) (hp : H p = none) (ho : NT o) : TabO T (upd H p o) := by
  refine ⟨h.1.ext fun a u q => by rw [upd_ne (ne_of_none q hp)]; exact q, fun a ps e => ?_⟩
  by_cases q : a = p
  · rw [q, upd_same] at e
    exact absurd (Option.some.inj e) (ho ps)
  · rw [upd_ne q] at e
    exact h.2 a ps e
/-- the base from here on -/
def rb (H : Hp) (Z : Addr → Prop) (lk : List Nat) (fps : Nat → List Addr) (pins : List (Nat × V)) : Bs := ⟨H, Z, fun a => ∃ i, i ∉ lk ∧ a ∈ fps i, fun i a => i ∈ lk ∧ a ∈ fps i, pins⟩
section
variable {G : GI} {B B' : Bs} {lk lk' L : List Nat} {Z Z' : Addr → Prop} {σ σ' : St} {H H' : Hp} {Γ Γ' : List Nat} {en en' : En} {fps fps' : Nat → List Addr}
theorem Cfg.fin (C : Cfg G B lk Z σ H Γ en fps) {i : Nat} {a : Addr} (h : a ∈ fps i) : ∃ d v, en[i]? = some (some d) ∧ σ[i]? = some (some v) ∧ Own G Z H (Γ.getD i 0) v d (fps i) := by
  by_cases e : ∃ d, en[i]? = some (some d)
  · obtain ⟨d, e⟩ := e
    obtain ⟨v, h1, h2⟩ := C.rep i d e
    exact ⟨d, v, e, h1, h2⟩
  · rw [C.emp i fun d q => e ⟨d, q⟩] at h
    cases h
theorem Cfg.chg (C : Cfg G B lk Z σ H Γ en fps) {i : Nat} {a : Addr} (h : a ∈ fps i) : ∃ o, H a = some o ∧ Chg o := by
  obtain ⟨d, v, _, _, h2⟩ := C.fin h
  exact h2.chg a h
theorem Cfg.stayI (C : Cfg G B lk Z σ H Γ en fps) : StayI B.H H := fun a o e n => (C.keep a o e fun z => by
  obtain ⟨o', e', c⟩ := C.bok.fch a z
  rw [e] at e'; cases e'; exact n c.t).eq (nct n)
theorem Cfg.rebase (C : Cfg G B lk Z σ H Γ en fps) (lk' : List Nat) : Cfg G (rb H Z lk' fps B.pins) lk' Z σ H Γ en fps where
  bok := ⟨fun a ⟨i, _, h⟩ => C.chg h, fun i a ⟨_, h⟩ => C.chg h, fun i a h => h.1, C.zt, fun a z ⟨i, _, h⟩ => C.nz i a h z, fun i a z ⟨_, h⟩ => C.nz i a h z⟩
  len := C.len
  rep := C.rep
  emp := C.emp
  nd := C.nd
  dis := C.dis
  nz := C.nz
  zt := C.zt
  tab := C.tab
  keep := fun a o e _ => .inl e
  newf := fun i a h => by
    by_cases hi : i ∈ lk'
    · exact .inr (.inl ⟨hi, h⟩)
    · exact .inl ⟨i, hi, h⟩
  lkd := fun i j a h ⟨_, h'⟩ => C.dis i j a h h'
  lks := fun i a h => .inr h.2
  zb := fun a z => z
  zn := fun a z => .inl z
  pin := C.pin
/-- what was tracked at the elder base and may not change, may not change from here on -/
theorem Cfg.nF (C : Cfg G B lk Z σ H Γ en fps) (hl : ∀ i ∈ lk, i ∈ lk') {a : Addr} {o : HO} (e : B.H a = some o) (n : ¬ B.F a) : ¬ (rb H Z lk' fps B.pins).F a := fun ⟨i, hi, h⟩ => by
  rcases C.newf i a h with z | z | z
  · exact n z
  · exact hi (hl i (C.bok.lki i a z))
  · rw [e] at z; cases z
theorem Cfg.none_of (C : Cfg G B lk Z σ H Γ en fps) {a : Addr} (e : H a = none) : B.F a ∨ B.H a = none := by
  cases q : B.H a with
  | none => exact .inr rfl
  | some o =>
    by_cases z : B.F a
    · exact .inl z
    · obtain ⟨_, this⟩ := (C.keep a o q z).ex
      rw [e] at this; cases this
/-- from the elder base -/
theorem Cfg.comp (C : Cfg G B lk Z σ H Γ en fps) (hl : ∀ i ∈ lk, i ∈ lk') (D : Cfg G (rb H Z lk' fps B.pins) lk' Z' σ' H' Γ' en' fps') : Cfg G B lk Z' σ' H' Γ' en' fps' where
  bok := C.bok
  len := D.len
  rep := D.rep
  emp := D.emp
  nd := D.nd
  dis := D.dis
  nz := D.nz
  zt := D.zt
  tab := D.tab
  keep := fun a o e n => (C.keep a o e n).trans fun o1 e1 => D.keep a o1 e1 (C.nF hl e n)
  newf := fun i a h => by
    rcases D.newf i a h with ⟨j, hj, z⟩ | ⟨hi, z⟩ | z
    · rcases C.newf j a z with y | y | y
      · exact .inl y
      · exact absurd (hl j (C.bok.lki j a y)) hj
      · exact .inr (.inr y)
    · exact C.newf i a z
    · rcases C.none_of z with y | y
      · exact .inl y
      · exact .inr (.inr y)
  lkd := fun i j a h y => by
    rcases C.lks j a y with z | z
    · exact absurd (D.zb a z) (D.nz i a h)
    · exact D.lkd i j a h ⟨hl j (C.bok.lki j a y), z⟩
  lks := fun i a y => by
    rcases C.lks i a y with z | z
    · exact .inl (D.zb a z)
    · exact D.lks i a ⟨hl i (C.bok.lki i a y), z⟩
  zb := fun a z => D.zb a (C.zb a z)
  zn := fun a z => by
    have fr : ∀ i, a ∈ fps i → B.Z a ∨ B.F a ∨ (∃ i, B.Lk i a) ∨ B.H a = none := fun i h => by
      rcases C.newf i a h with y | y | y
      · exact .inr (.inl y)
      · exact .inr (.inr (.inl ⟨i, y⟩))
      · exact .inr (.inr (.inr y))
    rcases D.zn a z with y | ⟨i, _, h⟩ | ⟨i, _, h⟩ | y
    · exact C.zn a y
    · exact fr i h
    · exact fr i h
    · rcases C.none_of y with w | w
      · exact .inr (.inl w)
      · exact .inr (.inr (.inr w))
  pin := D.pin
/-- what stands still, with what is lent -/
def Zl (Z : Addr → Prop) (L : List Nat) (fps : Nat → List Addr) : Addr → Prop := fun a => Z a ∨ ∃ i ∈ L, a ∈ fps i
theorem Zl_nil {a : Addr} : Zl Z [] fps a ↔ Z a := ⟨fun z => z.elim id (fun ⟨_, h, _⟩ => nomatch h), fun z => .inl z⟩
/-- a value that is held -/
structure Held (G : GI) (B : Bs) (L : List Nat) (Z : Addr → Prop) (H : Hp) (fps : Nat → List Addr) (κ : Nat) (v : V) (d : D) (fp : List Addr) : Prop where
  own : Own G (Zl Z L fps) H κ v d fp
  nd : fp.Nodup
  nz : ∀ a ∈ fp, ¬ Z a
  ds : ∀ a ∈ fp, ∀ i, a ∉ fps i
  nw : ∀ a ∈ fp, B.F a ∨ B.H a = none
structure HeldL (G : GI) (B : Bs) (L : List Nat) (Z : Addr → Prop) (H : Hp) (fps : Nat → List Addr) (κ : Nat) (vs : List V) (ds : List D) (fp : List Addr) : Prop where
  own : OwnL G (Zl Z L fps) H κ vs ds fp
  nd : fp.Nodup
  nz : ∀ a ∈ fp, ¬ Z a
  ds : ∀ a ∈ fp, ∀ i, a ∉ fps i
  nw : ∀ a ∈ fp, B.F a ∨ B.H a = none
variable {κ : Nat} {v : V} {d : D} {fp : List Addr} {vs : List V} {dsL : List D}
theorem stay_all (C : Cfg G B lk Z σ H Γ en fps) (hl : ∀ i ∈ lk, i ∈ lk') (hL : ∀ i ∈ L, i ∈ lk') (D : Cfg G (rb H Z lk' fps B.pins) lk' Z' σ' H' Γ' en' fps') :
    StayI H H' ∧ (∀ a, Zl Z L fps a → Zl Z' L fps' a ∧ ∀ o, H a = some o → H' a = some o) ∧ ∀ a, (∀ i, a ∉ fps i) → ∀ o, NT o → H a = some o → H' a = some o := by
  refine ⟨D.stayI, fun a z => ?_, fun a n o t e => (D.keep a o e fun ⟨i, _, h⟩ => n i h).eq t⟩
  rcases z with z | ⟨i, hi, h⟩
  · refine ⟨.inl (D.zb a z), fun o e => (D.keep a o e fun ⟨j, _, h⟩ => C.nz j a h z).eq ?_⟩
    obtain ⟨o', e', t⟩ := C.zt a z
    rw [e] at e'; cases e'; exact t
  · refine ⟨?_, fun o e => (D.keep a o e fun ⟨j, hj, h'⟩ => ?_).eq (by
      obtain ⟨o', e', t⟩ := C.chg h
      rw [e] at e'; cases e'; exact t.nt)⟩
    · rcases D.lks i a ⟨hL i hi, h⟩ with z | z
      · exact .inl z
      · exact .inr ⟨i, hi, z⟩
    · have := C.dis i j a h h'
      subst this
      exact hj (hL i hi)
theorem fp_stay (C : Cfg G B lk Z σ H Γ en fps) (D : Cfg G (rb H Z lk' fps B.pins) lk' Z' σ' H' Γ' en' fps') (hl : ∀ i ∈ lk, i ∈ lk') (hc : ∀ a ∈ fp, ∃ o, H a = some o ∧ Chg o) (nz : ∀ a ∈ fp, ¬ Z a) (ds : ∀ a ∈ fp, ∀ i, a ∉ fps i) :
    (∀ a ∈ fp, ¬ Z' a) ∧ ∀ a ∈ fp, ∀ i, a ∉ fps' i := by
  refine ⟨fun a h z => ?_, fun a h i h' => ?_⟩
  · obtain ⟨o, e, _⟩ := hc a h
    rcases D.zn a z with y | ⟨i, _, y⟩ | ⟨i, _, y⟩ | y
    · exact nz a h y
    · exact ds a h i y
    · exact ds a h i y
    · have y : H a = none := y
      rw [e] at y; cases y
  · obtain ⟨o, e, _⟩ := hc a h
    rcases D.newf i a h' with ⟨j, _, y⟩ | ⟨_, y⟩ | y
    · exact ds a h j y
    · exact ds a h i y
    · have y : H a = none := y
      rw [e] at y; cases y
/-- held on -/
theorem Held.stay (h : Held G B L Z H fps κ v d fp) (C : Cfg G B lk Z σ H Γ en fps) (hl : ∀ i ∈ lk, i ∈ lk') (hL : ∀ i ∈ L, i ∈ lk') (D : Cfg G (rb H Z lk' fps B.pins) lk' Z' σ' H' Γ' en' fps') : Held G B L Z' H' fps' κ v d fp := by
  obtain ⟨s1, s2, s3⟩ := stay_all C hl hL D
  obtain ⟨t1, t2⟩ := fp_stay C D hl h.own.chg h.nz h.ds
  exact ⟨own_keep s1 s2 h.own fun a ha o e => s3 a (h.ds a ha) o (by
    obtain ⟨o', e', t⟩ := h.own.chg a ha
    rw [e] at e'; cases e'; exact t.nt) e, h.nd, t1, t2, h.nw⟩
theorem HeldL.stay (h : HeldL G B L Z H fps κ vs dsL fp) (C : Cfg G B lk Z σ H Γ en fps) (hl : ∀ i ∈ lk, i ∈ lk') (hL : ∀ i ∈ L, i ∈ lk') (D : Cfg G (rb H Z lk' fps B.pins) lk' Z' σ' H' Γ' en' fps') : HeldL G B L Z' H' fps' κ vs dsL fp := by
  obtain ⟨s1, s2, s3⟩ := stay_all C hl hL D
  obtain ⟨t1, t2⟩ := fp_stay C D hl h.own.chg h.nz h.ds
  exact ⟨ownL_keep s1 s2 h.own fun a ha o e => s3 a (h.ds a ha) o (by
    obtain ⟨o', e', t⟩ := h.own.chg a ha
    rw [e] at e'; cases e'; exact t.nt) e, h.nd, t1, t2, h.nw⟩
/-- told from the elder base -/
theorem Held.comp (C : Cfg G B lk Z σ H Γ en fps) (hl : ∀ i ∈ lk, i ∈ lk') (h : Held G (rb H Z lk' fps B.pins) L Z' H' fps' κ v d fp) : Held G B L Z' H' fps' κ v d fp :=
  ⟨h.own, h.nd, h.nz, h.ds, fun a ha => by
    rcases h.nw a ha with ⟨j, hj, z⟩ | z
    · rcases C.newf j a z with y | y | y
      · exact .inl y
      · exact absurd (hl j (C.bok.lki j a y)) hj
      · exact .inr y
    · exact C.none_of z⟩
theorem HeldL.comp (C : Cfg G B lk Z σ H Γ en fps) (hl : ∀ i ∈ lk, i ∈ lk') (h : HeldL G (rb H Z lk' fps B.pins) L Z' H' fps' κ vs dsL fp) : HeldL G B L Z' H' fps' κ vs dsL fp :=
  ⟨h.own, h.nd, h.nz, h.ds, fun a ha => by
    rcases h.nw a ha with ⟨j, hj, z⟩ | z
    · rcases C.newf j a z with y | y | y
      · exact .inl y
      · exact absurd (hl j (C.bok.lki j a y)) hj
      · exact .inr y
    · exact C.none_of z⟩
/-- two that are held have nothing in common -/
theorem held_apart (C : Cfg G B lk Z σ H Γ en fps) {fp' : List Addr} (hc : ∀ a ∈ fp, ∃ o, H a = some o ∧ Chg o) (ds : ∀ a ∈ fp, ∀ i, a ∉ fps i) (nw : ∀ a ∈ fp', (rb H Z lk' fps B.pins).F a ∨ H a = none) : ∀ a ∈ fp, a ∉ fp' := fun a h h' => by
  obtain ⟨o, e, _⟩ := hc a h
  rcases nw a h' with ⟨j, _, z⟩ | z
  · exact ds a h j z
  · rw [e] at z; cases z
theorem Held.fewer (h : Held G B [] Z H fps κ v d fp) (L : List Nat) : Held G B L Z H fps κ v d fp := ⟨h.own.monoZ fun a z => .inl (Zl_nil.mp z), h.nd, h.nz, h.ds, h.nw⟩
theorem Held.moreL {L' : List Nat} (h : Held G B L Z H fps κ v d fp) (hs : ∀ i ∈ L, i ∈ L') : Held G B L' Z H fps κ v d fp := ⟨h.own.monoZ fun a z => z.elim .inl fun ⟨i, m, q⟩ => .inr ⟨i, hs i m, q⟩, h.nd, h.nz, h.ds, h.nw⟩
theorem HeldL.moreL {L' : List Nat} (h : HeldL G B L Z H fps κ vs dsL fp) (hs : ∀ i ∈ L, i ∈ L') : HeldL G B L' Z H fps κ vs dsL fp := ⟨h.own.monoZ fun a z => z.elim .inl fun ⟨i, m, q⟩ => .inr ⟨i, hs i m, q⟩, h.nd, h.nz, h.ds, h.nw⟩
/-! ### the heap grows: new objects -/
/-- a new object, untracked so far -/
theorem Cfg.grow (C : Cfg G B lk Z σ H Γ en fps) {p : Addr} {o : HO} (hp : H p = none) (ho : NT o := by exact fun _ z => nomatch z) : Cfg G B lk Z σ (upd H p o) Γ en fps where
  bok := C.bok
  len := C.len
  rep := fun i d e => by
    obtain ⟨v, h1, h2⟩ := C.rep i d e
    have up : ∀ a u, H a = some u → upd H p o a = some u := fun a u q => by rw [upd_ne (ne_of_none q hp)]; exact q
    exact ⟨v, h1, own_keep (fun a u q _ => up a u q) (fun a z => ⟨z, fun u q => up a u q⟩) h2 fun a _ u q => up a u q⟩
  emp := C.emp
  nd := C.nd
  dis := C.dis
  nz := C.nz
  zt := fun a z => by
    obtain ⟨u, q, t⟩ := C.zt a z
    exact ⟨u, by rw [upd_ne (ne_of_none q hp)]; exact q, t⟩
  tab := tabs_new C.tab hp ho
  keep := fun a u e n => by
    have q := C.keep a u e n
    obtain ⟨_, q'⟩ := q.ex
    rw [upd_ne (ne_of_none q' hp)]; exact q
  newf := C.newf
  lkd := C.lkd
  lks := C.lks
  zb := C.zb
  zn := C.zn
  pin := C.pin
theorem upd_keep {p : Addr} {o : HO} (hp : H p = none) : ∀ a u, H a = some u → upd H p o a = some u := fun a u q => by rw [upd_ne (ne_of_none q hp)]; exact q
theorem Held.grow (h : Held G B L Z H fps κ v d fp) {p : Addr} {o : HO} (hp : H p = none) : Held G B L Z (upd H p o) fps κ v d fp :=
  ⟨own_keep (fun a u q _ => upd_keep hp a u q) (fun a z => ⟨z, fun u q => upd_keep hp a u q⟩) h.own fun a _ u q => upd_keep hp a u q, h.nd, h.nz, h.ds, h.nw⟩
theorem HeldL.grow (h : HeldL G B L Z H fps κ vs dsL fp) {p : Addr} {o : HO} (hp : H p = none) : HeldL G B L Z (upd H p o) fps κ vs dsL fp :=
  ⟨ownL_keep (fun a u q _ => upd_keep hp a u q) (fun a z => ⟨z, fun u q => upd_keep hp a u q⟩) h.own fun a _ u q => upd_keep hp a u q, h.nd, h.nz, h.ds, h.nw⟩
/-- a tuple of what is held -/
theorem HeldL.tup (C : Cfg G B lk Z σ H Γ en fps) (h : HeldL G B L Z H fps κ vs dsL fp) {p : Addr} (hp : H p = none) : Held G B L Z (upd H p (.tup vs)) fps κ (.ref p) (.tup dsL) fp :=
  let g := h.grow (o := .tup vs) hp
  ⟨.tup upd_same g.own, g.nd, g.nz, g.ds, g.nw⟩
/-- a list of what is held -/
theorem HeldL.lst (C : Cfg G B lk Z σ H Γ en fps) (h : HeldL G B L Z H fps κ vs dsL fp) {p : Addr} (hp : H p = none) : Held G B L Z (upd H p (.lst vs)) fps (κ + 1) (.ref p) (.lst dsL) (p :: fp) := by
  have g := h.grow (o := .lst vs) hp
  have np : ∀ a ∈ fp, a ≠ p := fun a ha e => by
    obtain ⟨o, q, _⟩ := h.own.chg a ha
    rw [e, hp] at q; cases q
  refine ⟨.own upd_same g.own, List.nodup_cons.mpr ⟨fun m => np p m rfl, g.nd⟩, fun a ha => ?_, fun a ha i => ?_, fun a ha => ?_⟩
  · rcases List.mem_cons.mp ha with rfl | ha
    · intro z
      obtain ⟨u, q, _⟩ := C.zt _ z
      rw [hp] at q; cases q
    · exact g.nz a ha
  · rcases List.mem_cons.mp ha with rfl | ha
    · intro m
      obtain ⟨u, q, _⟩ := C.chg m
      rw [hp] at q; cases q
    · exact g.ds a ha i
  · rcases List.mem_cons.mp ha with rfl | ha
    · exact C.none_of hp
    · exact g.nw a ha
end
end Im
/-! Expressions: what they compute over plain values. -/
namespace Im
open PySem PySem.Spec PyProof.Rows L2
inductive Res where
  | ok (d : D) (en : En) | exc (c : Str) (x : D) | bad
inductive ResL where
  | ok (ds : List D) (en : En) | exc (c : Str) (x : D) | bad
abbrev EM := En → Res
abbrev AM := En → ResL
/-- an exception in the air: of the class named c, its value x -/
structure XOk (G : GI) (B : Bs) (H' : Hp) (c : Str) (x : D) (C dd : Addr) : Prop where
  cls : G.cls c = some C
  ex : ∃ v Z', H' dd = some (.xd [(("value" : Str), v)]) ∧ Own G Z' H' 0 v x [] ∧ (∀ a, B.Z a → Z' a) ∧ (∀ a, Z' a → B.Z a ∨ B.F a ∨ (∃ i, B.Lk i a) ∨ B.H a = none) ∧ (∀ a, Z' a → ∃ o, H' a = some o ∧ NT o)
  keep : Stay B.F B.H H'
  tab : TabO G.T H'
section
variable {G : GI} {B : Bs} {W : WX} {lk lk' L L' : List Nat} {Z Z' : Addr → Prop} {σ σ' : St} {H H' : Hp} {Γ Γ' Γ1 Γ2 : List Nat} {en en' : En} {fps fps' : Nat → List Addr} {κ κ' : Nat}
theorem XOk.comp {c : Str} {x : D} {Cc dd : Addr} (C : Cfg G B lk Z σ H Γ en fps) (hl : ∀ i ∈ lk, i ∈ lk') (h : XOk G (rb H Z lk' fps B.pins) H' c x Cc dd) : XOk G B H' c x Cc dd := by
  obtain ⟨v, Z', e, o, zb, zn, zt⟩ := h.ex
  have fr : ∀ i a, a ∈ fps i → B.Z a ∨ B.F a ∨ (∃ i, B.Lk i a) ∨ B.H a = none := fun i a h => by
    rcases C.newf i a h with y | y | y
    · exact .inr (.inl y)
    · exact .inr (.inr (.inl ⟨i, y⟩))
    · exact .inr (.inr (.inr y))
  refine ⟨h.cls, ⟨v, Z', e, o, fun a z => zb a (C.zb a z), fun a z => ?_, zt⟩, fun a o e n => (C.keep a o e n).trans fun o1 e1 => h.keep a o1 e1 (C.nF hl e n), h.tab⟩
  rcases zn a z with y | ⟨i, _, y⟩ | ⟨i, _, y⟩ | y
  · exact C.zn a y
  · exact fr i a y
  · exact fr i a y
  · rcases C.none_of y with w | w
    · exact .inr (.inl w)
    · exact .inr (.inr (.inr w))
def OutE (G : GI) (B : Bs) (W : WX) (lk : List Nat) (κ : Nat) (L : List Nat) (Γ' : List Nat) (σ : St) (Q : VK) : Res → Prop
  | .ok d en' => ∀ v Z' H' fps' fp, Cfg G B lk Z' σ H' Γ' en' fps' → Held G B L Z' H' fps' κ v d fp → Q v H'
  | .exc c x => ∀ C dd H', XOk G B H' c x C dd → W (.ref C) (some dd) σ H'
  | .bad => False
def tE (G : GI) (W : WX) (lk Γ : List Nat) (κ : Nat) (L Γ' : List Nat) (m : EM) : TE := fun σ H Q =>
  ∃ B Z en fps, Cfg G B lk Z σ H Γ en fps ∧ OutE G B W lk κ L Γ' σ Q (m en)
/-- e computes m; its value is of the kind κ, with the names at L lent -/
def EI (X : Cx) (G : GI) (W : WX) (lk Γ : List Nat) (e : Expr) (κ : Nat) (L Γ' : List Nat) (m : EM) : Prop := PE X e (tE G W lk Γ κ L Γ' m)
theorem PE.imp {X : Cx} {e : Expr} {t t' : TE} (h : PE X e t) (i : ∀ σ H Q, t' σ H Q → t σ H Q) : PE X e t' := ⟨fun pins s σ H Q I q => h.run pins s σ H Q I (i σ H Q q)⟩
theorem PT.imp {X : Cx} {e : Expr} {t t' : TT} (h : PT X e t) (i : ∀ σ H Q, t' σ H Q → t σ H Q) : PT X e t' := ⟨fun pins s σ H Q I q => h.run pins s σ H Q I (i σ H Q q)⟩
theorem PW.imp {X : Cx} {e : Expr} {t t' : TT} (h : PW X e t) (i : ∀ σ H Q, t' σ H Q → t σ H Q) : PW X e t' := ⟨fun w pins s σ H Q I q => h.run w pins s σ H Q I (i σ H Q q)⟩
theorem PA.imp {X : Cx} {es : List Expr} {t t' : TA} (h : PA X es t) (i : ∀ σ H Q, t' σ H Q → t σ H Q) : PA X es t' := ⟨fun pos pins s σ H Q I q => h.run pos pins s σ H Q I (i σ H Q q)⟩
theorem PS.imp {X : Cx} {st : Stmt} {t t' : TS} (h : PS X st t) (i : ∀ D σ H, t' D σ H → t D σ H) : PS X st t' := ⟨fun pins s σ H D I q => h.run pins s σ H D I (i D σ H q)⟩
theorem PSs.imp {X : Cx} {st : List Stmt} {t t' : TS} (h : PSs X st t) (i : ∀ D σ H, t' D σ H → t D σ H) : PSs X st t' := ⟨fun pins s σ H D I q => h.run pins s σ H D I (i D σ H q)⟩
/-! ### scalars -/
/-- no list within -/
inductive ScV : V → D → Prop
  | non : ScV .non .non
  | bl {b : Bool} : ScV (.bl b) (.bl b)
  | int {i : Int} : ScV (.int i) (.int i)
  | str {x : Str} : ScV (.str x) (.str x)
theorem ScV.own {v : V} {d : D} (h : ScV v d) {k : Nat} : Own G Z H k v d [] := by
  cases h
  · exact .non
  · exact .bl
  · exact .int
  · exact .str
theorem Held.sc {v : V} {d : D} (h : ScV v d) : Held G B L Z H fps κ v d [] := ⟨h.own, List.nodup_nil, (fun _ h => nomatch h), (fun _ h => nomatch h), (fun _ h => nomatch h)⟩
theorem held_frz {v : V} {d : D} (h : Own G (Zl Z L fps) H 0 v d []) : Held G B L Z H fps 0 v d [] := ⟨h, List.nodup_nil, (fun _ h => nomatch h), (fun _ h => nomatch h), (fun _ h => nomatch h)⟩
variable {X : Cx} {pos : Pos}
/-! ### constants -/
def mC (d : D) : EM := fun en => .ok d en
theorem ei_int {i : Int} {j : Nat} : EI X G W lk Γ (.Constant (.int i) j pos) κ [] Γ (mC (.int i)) := PE.imp pe_int fun σ H Q ⟨B, Z, en, fps, C, o⟩ => o _ _ _ _ _ C (.sc .int)
theorem ei_bl {b : Bool} {j : Nat} : EI X G W lk Γ (.Constant (.bool b) j pos) κ [] Γ (mC (.bl b)) := PE.imp pe_bl fun σ H Q ⟨B, Z, en, fps, C, o⟩ => o _ _ _ _ _ C (.sc .bl)
theorem ei_non {j : Nat} : EI X G W lk Γ (.Constant .none j pos) κ [] Γ (mC .non) := PE.imp pe_non fun σ H Q ⟨B, Z, en, fps, C, o⟩ => o _ _ _ _ _ C (.sc .non)
theorem ei_str {x : Str} {j : Nat} : EI X G W lk Γ (.Constant (.str x) j pos) κ [] Γ (mC (.str x)) := PE.imp pe_str fun σ H Q ⟨B, Z, en, fps, C, o⟩ => o _ _ _ _ _ C (.sc .str)
/-- a number or text of the module -/
theorem ei_glob {x : Str} {v : V} {u : Value} {d : D} (hg : Gl X x) (hm : X.mg x = some u) (r : RelV v u) (sc : ScV v d) (hd : (x == ("__debug__" : Str)) = false := by decide) : EI X G W lk Γ (.Name x pos) κ [] Γ (mC d) :=
  PE.imp (pe_glob hg hm r hd) fun σ H Q ⟨B, Z, en, fps, C, o⟩ => o _ _ _ _ _ C (.sc sc)
/-- a def of the module as a value -/
theorem ei_fn {x : Str} {f : Addr} (hg : Gl X x) (hm : X.mg x = some (.ref f)) (hf : G.fn x = some f) (hd : (x == ("__debug__" : Str)) = false := by decide) : EI X G W lk Γ (.Name x pos) κ [] Γ (mC (.fn x)) :=
  PE.imp (pe_glob (v := .ref f) hg hm rfl hd) fun σ H Q ⟨B, Z, en, fps, C, o⟩ => o _ _ _ _ _ C ⟨.fn hf, List.nodup_nil, (fun _ h => nomatch h), (fun _ h => nomatch h), (fun _ h => nomatch h)⟩
/-! ### names -/
def mVar (i : Nat) : EM := fun en => match en[i]? with
  | some (some d) => .ok d en
  | _ => .bad
def mMove (i : Nat) : EM := fun en => match en[i]? with
  | some (some d) => .ok d (en.set i none)
  | _ => .bad
/-- no list within -/
def scD : D → Bool
  | .non | .bl _ | .int _ | .str _ => true
  | _ => false
theorem mVar_ok {i : Nat} {en : En} {P : Res → Prop} (hb : ¬ P .bad) (h : P (mVar i en)) : ∃ d, en[i]? = some (some d) ∧ P (.ok d en) := by
  unfold mVar at h
  split at h
  · rename_i d e
    exact ⟨d, e, h⟩
  · exact absurd h hb
theorem scD_scv {v : V} {d : D} {k : Nat} {fp : List Addr} (h : Own G Z H k v d fp) (s : scD d = true) : ScV v d ∧ fp = [] := by
  cases h <;> first
    | exact ⟨.non, rfl⟩
    | exact ⟨.bl, rfl⟩
    | exact ⟨.int, rfl⟩
    | exact ⟨.str, rfl⟩
    | (simp [scD] at s)
/-- a name whose value stands still -/
theorem ei_var {i : Nat} {x : Str} (hN : X.N[i]? = some x) (hv : Vis X.env.scope x) (hk : Γ.getD i 0 = 0) (hd : (x == ("__debug__" : Str)) = false := by decide) (hcd : (x == ("__classdict__" : Str)) = false := by decide) :
    EI X G W lk Γ (.Name x pos) 0 [] Γ (mVar i) := PE.imp (pe_var hN hv hd hcd) fun σ H Q ⟨B, Z, en, fps, C, o⟩ => by
  obtain ⟨d, e, o⟩ := mVar_ok (P := OutE G B W lk 0 [] Γ σ Q) (fun z => z) o
  obtain ⟨v, h1, h2⟩ := C.rep i d e
  rw [hk] at h2
  have z := h2.z0
  rw [z] at h2
  exact ⟨v, h1, o _ _ _ _ _ C (held_frz (h2.monoZ fun a z => Zl_nil.mpr z))⟩
/-- a name that holds a scalar -/
def mVarS (i : Nat) : EM := fun en => match en[i]? with
  | some (some d) => if scD d then .ok d en else .bad
  | _ => .bad
theorem ei_varS {i : Nat} {x : Str} (hN : X.N[i]? = some x) (hv : Vis X.env.scope x) (hd : (x == ("__debug__" : Str)) = false := by decide) (hcd : (x == ("__classdict__" : Str)) = false := by decide) :
    EI X G W lk Γ (.Name x pos) κ [] Γ (mVarS i) := PE.imp (pe_var hN hv hd hcd) fun σ H Q ⟨B, Z, en, fps, C, o⟩ => by
  unfold mVarS at o
  split at o
  · rename_i d e
    split at o
    · rename_i s
      obtain ⟨v, h1, h2⟩ := C.rep i d e
      exact ⟨v, h1, o _ _ _ _ _ C (.sc (scD_scv h2 s).1)⟩
    · exact o.elim
  · exact o.elim
/-- lent: seen, not given up -/
theorem ei_lend {i : Nat} {x : Str} (hN : X.N[i]? = some x) (hv : Vis X.env.scope x) (hd : (x == ("__debug__" : Str)) = false := by decide) (hcd : (x == ("__classdict__" : Str)) = false := by decide) :
    EI X G W lk Γ (.Name x pos) 0 [i] Γ (mVar i) := PE.imp (pe_var hN hv hd hcd) fun σ H Q ⟨B, Z, en, fps, C, o⟩ => by
  obtain ⟨d, e, o⟩ := mVar_ok (P := OutE G B W lk 0 [i] Γ σ Q) (fun z => z) o
  obtain ⟨v, h1, h2⟩ := C.rep i d e
  exact ⟨v, h1, o _ _ _ _ _ C (held_frz (h2.freeze.monoZ fun a z => z.elim .inl fun m => .inr ⟨i, List.mem_cons_self, m⟩))⟩
/-- given up: from now on it stands still -/
theorem Cfg.frz (C : Cfg G B lk Z σ H Γ en fps) (i : Nat) : Cfg G B lk (fun a => Z a ∨ a ∈ fps i) σ H (Γ.set i 0) en (fun j => if j = i then [] else fps j) where
  bok := C.bok
  len := C.len
  rep := fun j d e => by
    obtain ⟨v, h1, h2⟩ := C.rep j d e
    refine ⟨v, h1, ?_⟩
    by_cases hj : j = i
    · subst hj
      rw [if_pos rfl]
      have g : (Γ.set j 0).getD j 0 = 0 := by
        rw [List.getD_eq_getElem?_getD]
        by_cases hl : j < Γ.length
        · rw [List.getElem?_set_self hl]; rfl
        · rw [List.getElem?_eq_none (by simpa using hl)]; rfl
      rw [g]
      exact h2.freeze
    · rw [if_neg hj]
      have g : (Γ.set i 0).getD j 0 = Γ.getD j 0 := by
        rw [List.getD_eq_getElem?_getD, List.getD_eq_getElem?_getD, List.getElem?_set_ne (Ne.symm hj)]
      rw [g]
      exact h2.monoZ fun a z => .inl z
  emp := fun j e => by
    by_cases hj : j = i
    · rw [if_pos hj]
    · rw [if_neg hj]; exact C.emp j e
  nd := fun j => by
    by_cases hj : j = i
    · rw [if_pos hj]; exact List.nodup_nil
    · rw [if_neg hj]; exact C.nd j
  dis := fun j l a h h' => by
    split at h
    · cases h
    · split at h'
      · cases h'
      · exact C.dis j l a h h'
  nz := fun j a h => by
    split at h
    · cases h
    · rename_i hj
      intro z
      rcases z with z | z
      · exact C.nz j a h z
      · exact hj (C.dis j i a h z)
  zt := fun a z => by
    rcases z with z | z
    · exact C.zt a z
    · obtain ⟨o, e, t⟩ := C.chg z
      exact ⟨o, e, t.nt⟩
  tab := C.tab
  keep := C.keep
  newf := fun j a h => by
    split at h
    · cases h
    · exact C.newf j a h
  lkd := fun j l a h => by
    split at h
    · cases h
    · exact C.lkd j l a h
  lks := fun j a h => by
    rcases C.lks j a h with z | z
    · exact .inl (.inl z)
    · by_cases hj : j = i
      · subst hj; exact .inl (.inr z)
      · rw [if_neg hj]; exact .inr z
  zb := fun a z => .inl (C.zb a z)
  zn := fun a z => by
    rcases z with z | z
    · exact C.zn a z
    · rcases C.newf i a z with y | y | y
      · exact .inr (.inl y)
      · exact .inr (.inr (.inl ⟨i, y⟩))
      · exact .inr (.inr (.inr y))
  pin := C.pin
theorem ei_share {i : Nat} {x : Str} (hN : X.N[i]? = some x) (hv : Vis X.env.scope x) (hd : (x == ("__debug__" : Str)) = false := by decide) (hcd : (x == ("__classdict__" : Str)) = false := by decide) :
    EI X G W lk Γ (.Name x pos) 0 [] (Γ.set i 0) (mVar i) := PE.imp (pe_var hN hv hd hcd) fun σ H Q ⟨B, Z, en, fps, C, o⟩ => by
  obtain ⟨d, e, o⟩ := mVar_ok (P := OutE G B W lk 0 [] (Γ.set i 0) σ Q) (fun z => z) o
  obtain ⟨v, h1, h2⟩ := C.rep i d e
  exact ⟨v, h1, o _ _ _ _ _ (C.frz i) (held_frz (h2.freeze.monoZ fun a z => Zl_nil.mpr z))⟩
/-- a name forgotten -/
theorem Cfg.drop (C : Cfg G B lk Z σ H Γ en fps) (i : Nat) (hi : i ∉ lk) : Cfg G B lk Z σ H Γ (en.set i none) (fun j => if j = i then [] else fps j) where
  bok := C.bok
  len := by rw [List.length_set]; exact C.len
  rep := fun j d e => by
    by_cases hj : j = i
    · subst hj
      exfalso
      by_cases hl : j < en.length
      · rw [List.getElem?_set_self hl] at e; cases e
      · rw [List.getElem?_eq_none (by simpa using hl)] at e; cases e
    · rw [List.getElem?_set_ne (Ne.symm hj)] at e
      rw [if_neg hj]
      exact C.rep j d e
  emp := fun j e => by
    by_cases hj : j = i
    · rw [if_pos hj]
    · rw [if_neg hj]
      exact C.emp j fun d q => e d (by rw [List.getElem?_set_ne (Ne.symm hj)]; exact q)
  nd := fun j => by
    by_cases hj : j = i
    · rw [if_pos hj]; exact List.nodup_nil
    · rw [if_neg hj]; exact C.nd j
  dis := fun j l a h h' => by
    split at h
    · cases h
    · split at h'
      · cases h'
      · exact C.dis j l a h h'
  nz := fun j a h => by
    split at h
    · cases h
    · exact C.nz j a h
  zt := C.zt
  tab := C.tab
  keep := C.keep
  newf := fun j a h => by
    split at h
    · cases h
    · exact C.newf j a h
  lkd := fun j l a h => by
    split at h
    · cases h
    · exact C.lkd j l a h
  lks := fun j a h => by
    rcases C.lks j a h with z | z
    · exact .inl z
    · have hj : j ≠ i := fun e => hi (e ▸ C.bok.lki j a h)
      rw [if_neg hj]; exact .inr z
  zb := C.zb
  zn := C.zn
  pin := C.pin
/-- moved out of the name -/
theorem ei_move {i : Nat} {x : Str} (hN : X.N[i]? = some x) (hv : Vis X.env.scope x) (hk : Γ.getD i 0 = κ) (hi : i ∉ lk) (hd : (x == ("__debug__" : Str)) = false := by decide) (hcd : (x == ("__classdict__" : Str)) = false := by decide) :
    EI X G W lk Γ (.Name x pos) κ [] Γ (mMove i) := PE.imp (pe_var hN hv hd hcd) fun σ H Q ⟨B, Z, en, fps, C, o⟩ => by
  unfold mMove at o
  split at o
  · rename_i d e
    obtain ⟨v, h1, h2⟩ := C.rep i d e
    rw [hk] at h2
    refine ⟨v, h1, o _ _ _ _ (fps i) (C.drop i hi) ⟨h2.monoZ fun a z => Zl_nil.mpr z, C.nd i, C.nz i, fun a h j h' => ?_, fun a h => ?_⟩⟩
    · split at h'
      · cases h'
      · rename_i hj
        exact hj (C.dis j i a h' h)
    · rcases C.newf i a h with y | y | y
      · exact .inl y
      · exact absurd (C.bok.lki i a y) hi
      · exact .inr y
  · exact o.elim
end
end Im
/-! Operands in general; operators, comparisons, and, or, not, tests. -/
namespace Im
open PySem PySem.Spec PyProof.Rows L2
/-- how an operand is told: a value of a kind, some names lent; or a list seen, its items standing still -/
inductive Md where
  | e (κ : Nat) (L : List Nat)
  | v (L : List Nat)
def Md.L : Md → List Nat
  | .e _ L => L
  | .v L => L
/-- a list seen (or anything that stands still) -/
def Vw (G : GI) (L : List Nat) (Z : Addr → Prop) (H : Hp) (fps : Nat → List Addr) (v : V) (d : D) : Prop :=
  Own G Z H 0 v d [] ∨ ∃ a vs ds, v = .ref a ∧ d = .lst ds ∧ H a = some (.lst vs) ∧ OwnL G Z H 0 vs ds [] ∧ ∃ i ∈ L, a ∈ fps i
def Md.P (G : GI) (B : Bs) (Z : Addr → Prop) (H : Hp) (fps : Nat → List Addr) (v : V) (d : D) : Md → Prop
  | .e κ L => ∃ fp, Held G B L Z H fps κ v d fp
  | .v L => Vw G L Z H fps v d
section
variable {G : GI} {B : Bs} {W : WX} {lk lk' L L' : List Nat} {Z Z' : Addr → Prop} {σ σ' : St} {H H' : Hp} {Γ Γ' Γ1 Γ2 : List Nat} {en en' : En} {fps fps' : Nat → List Addr} {κ κ' : Nat} {v : V} {d : D}
theorem Vw.stay (h : Vw G L Z H fps v d) (C : Cfg G B lk Z σ H Γ en fps) (hl : ∀ i ∈ lk, i ∈ lk') (hL : ∀ i ∈ L, i ∈ lk') (D : Cfg G (rb H Z lk' fps B.pins) lk' Z' σ' H' Γ' en' fps') : Vw G L Z' H' fps' v d := by
  obtain ⟨s1, s2, s3⟩ := stay_all C hl hL D
  obtain ⟨_, z2, _⟩ := stay_all (L := []) C hl (fun _ h => nomatch h) D
  have zz : ∀ a, Z a → Z' a ∧ ∀ o, H a = some o → H' a = some o := fun a z => ⟨D.zb a z, (z2 a (.inl z)).2⟩
  rcases h with h | ⟨a, vs, ds, e1, e2, e3, h, i, hi, ha⟩
  · exact .inl (own_keep s1 zz h fun _ h => nomatch h)
  · have q := ownL_keep s1 zz h fun _ h => nomatch h
    have e4 := (s2 a (.inr ⟨i, hi, ha⟩)).2 _ e3
    rcases D.lks i a ⟨hL i hi, ha⟩ with z | z
    · exact .inl (e1 ▸ e2 ▸ .lst z e4 q)
    · exact .inr ⟨a, vs, ds, e1, e2, e4, q, i, hi, z⟩
theorem Md.stay {md : Md} (h : md.P G B Z H fps v d) (C : Cfg G B lk Z σ H Γ en fps) (hl : ∀ i ∈ lk, i ∈ lk') (hL : ∀ i ∈ md.L, i ∈ lk') (D : Cfg G (rb H Z lk' fps B.pins) lk' Z' σ' H' Γ' en' fps') : md.P G B Z' H' fps' v d := by
  cases md with
  | e κ L => obtain ⟨fp, h⟩ := h; exact ⟨fp, h.stay C hl hL D⟩
  | v L => exact Vw.stay h C hl hL D
theorem Md.comp {md : Md} (C : Cfg G B lk Z σ H Γ en fps) (hl : ∀ i ∈ lk, i ∈ lk') (h : md.P G (rb H Z lk' fps B.pins) Z' H' fps' v d) : md.P G B Z' H' fps' v d := by
  cases md with
  | e κ L => obtain ⟨fp, h⟩ := h; exact ⟨fp, Held.comp C hl h⟩
  | v L => exact h
/-- in any case it is that value -/
theorem Md.any {md : Md} (h : md.P G B Z H fps v d) : ∃ Zx k fp, Own G Zx H k v d fp := by
  cases md with
  | e κ L => obtain ⟨fp, h⟩ := h; exact ⟨_, _, _, h.own⟩
  | v L =>
    rcases h with h | ⟨a, vs, ds, e1, e2, e3, h, _⟩
    · exact ⟨_, _, _, h⟩
    · subst e1 e2
      exact ⟨Z, 1, _, Own.own e3 h⟩
def OutO (G : GI) (B : Bs) (W : WX) (lk : List Nat) (md : Md) (Γ' : List Nat) (σ : St) (Q : VK) : Res → Prop
  | .ok d en' => ∀ v Z' H' fps', Cfg G B lk Z' σ H' Γ' en' fps' → md.P G B Z' H' fps' v d → Q v H'
  | .exc c x => ∀ C dd H', XOk G B H' c x C dd → W (.ref C) (some dd) σ H'
  | .bad => False
def tO (G : GI) (W : WX) (lk Γ : List Nat) (md : Md) (Γ' : List Nat) (m : EM) : TE := fun σ H Q =>
  ∃ B Z en fps, Cfg G B lk Z σ H Γ en fps ∧ OutO G B W lk md Γ' σ Q (m en)
/-- an operand in general -/
def OI (X : Cx) (G : GI) (W : WX) (lk Γ : List Nat) (e : Expr) (md : Md) (Γ' : List Nat) (m : EM) : Prop := PE X e (tO G W lk Γ md Γ' m)
theorem OutO.toE {r : Res} {Q : VK} (h : OutO G B W lk (.e κ L) Γ' σ Q r) : OutE G B W lk κ L Γ' σ Q r := by
  cases r with
  | ok d en => exact fun v Z' H' fps' fp C q => h v Z' H' fps' C ⟨fp, q⟩
  | exc c x => exact h
  | bad => exact h
theorem OutE.toO {r : Res} {Q : VK} (h : OutE G B W lk κ L Γ' σ Q r) : OutO G B W lk (.e κ L) Γ' σ Q r := by
  cases r with
  | ok d en => exact fun v Z' H' fps' C ⟨fp, q⟩ => h v Z' H' fps' fp C q
  | exc c x => exact h
  | bad => exact h
variable {X : Cx} {pos : Pos} {m ma mb : EM} {e a b : Expr}
theorem oi_of (h : EI X G W lk Γ e κ L Γ' m) : OI X G W lk Γ e (.e κ L) Γ' m := PE.imp h fun σ H Q ⟨B, Z, en, fps, C, o⟩ => ⟨B, Z, en, fps, C, o.toE⟩
theorem ei_of (h : OI X G W lk Γ e (.e κ L) Γ' m) : EI X G W lk Γ e κ L Γ' m := PE.imp h fun σ H Q ⟨B, Z, en, fps, C, o⟩ => ⟨B, Z, en, fps, C, o.toO⟩
def mSee (i : Nat) : EM := fun en => match en[i]? with
  | some (some (.lst ds)) => .ok (.lst ds) en
  | _ => .bad
/-- a name's list, seen -/
theorem oi_name {i : Nat} {x : Str} (hN : X.N[i]? = some x) (hv : Vis X.env.scope x) (hk : Γ.getD i 0 ≤ 1) (hd : (x == ("__debug__" : Str)) = false := by decide) (hcd : (x == ("__classdict__" : Str)) = false := by decide) :
    OI X G W lk Γ (.Name x pos) (.v [i]) Γ (mSee i) := PE.imp (pe_var hN hv hd hcd) fun σ H Q ⟨B, Z, en, fps, C, o⟩ => by
  unfold mSee at o
  split at o
  · rename_i ds e
    obtain ⟨v, h1, h2⟩ := C.rep i _ e
    refine ⟨v, h1, o _ _ _ _ C ?_⟩
    generalize hf : fps i = f at h2
    have hc : Γ.getD i 0 = 0 ∨ Γ.getD i 0 = 1 := by omega
    rcases hc with hc | hc
    · rw [hc] at h2
      have z := h2.z0
      rw [z] at h2
      exact .inl h2
    · rw [hc] at h2
      cases h2 with
      | own q ql =>
        have z := ql.z0
        subst z
        exact .inr ⟨_, _, _, rfl, rfl, q, ql, i, List.mem_cons_self, by rw [hf]; exact List.mem_cons_self⟩
  · exact o.elim
/-! ### two operands -/
inductive Res2 where
  | ok (d1 d2 : D) (en : En) | exc (c : Str) (x : D) | bad
def mm2 (ma mb : EM) : En → Res2 := fun en => match ma en with
  | .ok d1 en1 => match mb en1 with
    | .ok d2 en2 => .ok d1 d2 en2
    | .exc c x => .exc c x
    | .bad => .bad
  | .exc c x => .exc c x
  | .bad => .bad
def Out2 (G : GI) (B : Bs) (W : WX) (lk : List Nat) (mda mdb : Md) (Γ2 : List Nat) (σ : St) (R : V → V → Hp → Prop) : Res2 → Prop
  | .ok d1 d2 en2 => ∀ v1 v2 Z2 H2 fps2, Cfg G B lk Z2 σ H2 Γ2 en2 fps2 → mda.P G B Z2 H2 fps2 v1 d1 → mdb.P G B Z2 H2 fps2 v2 d2 → R v1 v2 H2
  | .exc c x => ∀ C dd H', XOk G B H' c x C dd → W (.ref C) (some dd) σ H'
  | .bad => False
theorem run2 {mda mdb : Md} {R : V → V → Hp → Prop} (C : Cfg G B lk Z σ H Γ en fps) (h : Out2 G B W lk mda mdb Γ2 σ R (mm2 ma mb en)) :
    tO G W lk Γ mda Γ1 ma σ H fun x H1 => tO G W (mda.L ++ lk) Γ1 mdb Γ2 mb σ H1 fun y H2 => R x y H2 := by
  refine ⟨B, Z, en, fps, C, ?_⟩
  unfold mm2 at h
  cases ea : ma en with
  | bad => rw [ea] at h; exact h.elim
  | exc c x => rw [ea] at h; exact h
  | ok d1 en1 =>
    rw [ea] at h
    dsimp only at h
    intro v1 Z1 H1 fps1 C1 h1
    refine ⟨rb H1 Z1 (mda.L ++ lk) fps1 B.pins, Z1, en1, fps1, C1.rebase _, ?_⟩
    have hl : ∀ i ∈ lk, i ∈ mda.L ++ lk := fun i h => List.mem_append_right _ h
    have hL : ∀ i ∈ mda.L, i ∈ mda.L ++ lk := fun i h => List.mem_append_left _ h
    cases eb : mb en1 with
    | bad => rw [eb] at h; exact h.elim
    | exc c x => rw [eb] at h; exact fun Cc dd H' x => h _ _ _ (x.comp C1 hl)
    | ok d2 en2 =>
      rw [eb] at h
      exact fun v2 Z2 H2 fps2 C2 h2 => h v1 v2 Z2 H2 fps2 (C1.comp hl C2) (Md.stay h1 C1 hl hL C2) (Md.comp C1 hl h2)
/-! ### operators whose value is a scalar -/
/-- by values: r holds where f tells a scalar -/
def Lk2 (G : GI) (r : R2) (f : D → D → Option D) : Prop := ∀ (H : Hp) (v1 v2 : V) (d1 d2 d : D) (Q : VK), (∃ Zx k fp, Own G Zx H k v1 d1 fp) → (∃ Zx k fp, Own G Zx H k v2 d2 fp) → f d1 d2 = some d → (∀ v, ScV v d → Q v H) → r v1 v2 H Q
def mB (f : D → D → Option D) (ma mb : EM) : EM := fun en => match mm2 ma mb en with
  | .ok d1 d2 en2 => match f d1 d2 with
    | some d => .ok d en2
    | none => .bad
  | .exc c x => .exc c x
  | .bad => .bad
theorem out2_of {r : R2} {f : D → D → Option D} {mda mdb : Md} {Q : VK} (lnk : Lk2 G r f) (o : OutE G B W lk κ [] Γ2 σ Q (mB f ma mb en)) : Out2 G B W lk mda mdb Γ2 σ (fun x y H2 => r x y H2 Q) (mm2 ma mb en) := by
  unfold mB at o
  cases e : mm2 ma mb en with
  | bad => rw [e] at o; exact o.elim
  | exc c x => rw [e] at o; exact o
  | ok d1 d2 en2 =>
    rw [e] at o
    dsimp only at o
    intro v1 v2 Z2 H2 fps2 C2 h1 h2
    cases ef : f d1 d2 with
    | none => rw [ef] at o; exact o.elim
    | some d =>
      rw [ef] at o
      exact lnk H2 v1 v2 d1 d2 d Q (Md.any h1) (Md.any h2) ef fun v s => o v Z2 H2 fps2 [] C2 (.sc s)
theorem ei_bin {op : Operator} {r : R2} {f : D → D → Option D} {mda mdb : Md} (ho : OpR X (binaryOp op) r) (lnk : Lk2 G r f) (ha : OI X G W lk Γ a mda Γ1 ma) (hb : OI X G W (mda.L ++ lk) Γ1 b mdb Γ2 mb) :
    EI X G W lk Γ (.BinOp a op b pos) κ [] Γ2 (mB f ma mb) := PE.imp (pe_op ho ha hb) fun σ H Q ⟨B, Z, en, fps, C, o⟩ => run2 C (out2_of lnk o)
theorem ei_cmp {op : CmpOp} {r : R2} {f : D → D → Option D} {mda mdb : Md} (ho : OpR X (compareOp op) r) (lnk : Lk2 G r f) (hm : behindInMarks op b = false) (ha : OI X G W lk Γ a mda Γ1 ma) (hb : OI X G W (mda.L ++ lk) Γ1 b mdb Γ2 mb) :
    EI X G W lk Γ (.Compare a [op] [b] pos) κ [] Γ2 (mB f ma mb) := PE.imp (pe_cmpR ho ha hb hm) fun σ H Q ⟨B, Z, en, fps, C, o⟩ => run2 C (out2_of lnk o)
/-! ### tests -/
def OutT (G : GI) (B : Bs) (W : WX) (lk Γ' : List Nat) (σ : St) (Q : Bool → Hp → Prop) : Res → Prop
  | .ok (.bl c) en' => ∀ Z' H' fps', Cfg G B lk Z' σ H' Γ' en' fps' → Q c H'
  | .ok _ _ => False
  | .exc c x => ∀ C dd H', XOk G B H' c x C dd → W (.ref C) (some dd) σ H'
  | .bad => False
def tT (G : GI) (W : WX) (lk Γ Γ' : List Nat) (m : EM) : TT := fun σ H Q =>
  ∃ B Z en fps, Cfg G B lk Z σ H Γ en fps ∧ OutT G B W lk Γ' σ Q (m en)
def TI (X : Cx) (G : GI) (W : WX) (lk Γ : List Nat) (e : Expr) (Γ' : List Nat) (m : EM) : Prop := PT X e (tT G W lk Γ Γ' m)
def WI (X : Cx) (G : GI) (W : WX) (lk Γ : List Nat) (e : Expr) (Γ' : List Nat) (m : EM) : Prop := PW X e (tT G W lk Γ Γ' m)
theorem ti_of_wi (h : WI X G W lk Γ e Γ' m) : TI X G W lk Γ e Γ' m := PW.pt h
theorem scv_bl {v : V} {c : Bool} {k : Nat} {fp : List Addr} (h : Own G Z H k v (.bl c) fp) : v = .bl c := by
  cases h; rfl
theorem outE_bl {Q : Bool → Hp → Prop} {r : Res} (o : OutT G B W lk Γ' σ Q r) : OutE G B W lk κ L Γ' σ (fun x H' => ∃ c, x = .bl c ∧ Q c H') r := by
  cases r with
  | bad => exact o
  | exc c x => exact o
  | ok d en' =>
    cases d with
    | bl c =>
      intro v Z' H' fps' fp C h
      exact ⟨c, scv_bl h.own, o Z' H' fps' C⟩
    | _ => exact o.elim
/-- an expression whose value is a bool -/
theorem ti_val (h : EI X G W lk Γ e κ L Γ' m) (he : ∀ whole, isTrue e X.env whole = (do let v ← whole; standAt e.pos; holding [v] (truthy v)) := by intro _; rfl) : TI X G W lk Γ e Γ' m :=
  PT.imp (pt_val h he) fun σ H Q ⟨B, Z, en, fps, C, o⟩ => ⟨B, Z, en, fps, C, outE_bl o⟩
theorem ti_cmp {op : CmpOp} {r : R2} {f : D → D → Option D} {mda mdb : Md} (ho : OpR X (compareOp op) r) (lnk : Lk2 G r f) (hm : behindInMarks op b = false) (ha : OI X G W lk Γ a mda Γ1 ma) (hb : OI X G W (mda.L ++ lk) Γ1 b mdb Γ2 mb) :
    TI X G W lk Γ (.Compare a [op] [b] pos) Γ2 (mB f ma mb) := PT.imp (pt_cmpR ho ha hb hm) fun σ H Q ⟨B, Z, en, fps, C, o⟩ => run2 C (out2_of lnk (outE_bl (κ := 0) o))
def mNot (m : EM) : EM := fun en => match m en with
  | .ok (.bl c) en' => .ok (.bl !c) en'
  | .ok _ _ => .bad
  | .exc c x => .exc c x
  | .bad => .bad
theorem outT_not {Q : Bool → Hp → Prop} (o : OutT G B W lk Γ' σ Q (mNot m en)) : OutT G B W lk Γ' σ (fun c H' => Q (!c) H') (m en) := by
  unfold mNot at o
  cases e : m en with
  | bad => rw [e] at o; exact o
  | exc c x => rw [e] at o; exact o
  | ok d en' =>
    rw [e] at o
    cases d with
    | bl c => exact o
    | _ => exact o.elim
theorem ti_not (h : TI X G W lk Γ a Γ' m) : TI X G W lk Γ (.UnaryOp .Not a pos) Γ' (mNot m) := PT.imp (pt_not h) fun σ H Q ⟨B, Z, en, fps, C, o⟩ => ⟨B, Z, en, fps, C, outT_not o⟩
def mAnd (ma mb : EM) : EM := fun en => match ma en with
  | .ok (.bl true) en1 => mb en1
  | .ok (.bl false) en1 => .ok (.bl false) en1
  | .ok _ _ => .bad
  | .exc c x => .exc c x
  | .bad => .bad
def mOr (ma mb : EM) : EM := fun en => match ma en with
  | .ok (.bl true) en1 => .ok (.bl true) en1
  | .ok (.bl false) en1 => mb en1
  | .ok _ _ => .bad
  | .exc c x => .exc c x
  | .bad => .bad
/-- further on, from where one stands -/
theorem OutT.comp {Q : Bool → Hp → Prop} {r : Res} {L : List Nat} (C : Cfg G B lk Z σ H Γ en fps) (o : OutT G B W lk Γ' σ Q r) : OutT G (rb H Z lk fps B.pins) W lk Γ' σ Q r := by
  cases r with
  | bad => exact o
  | exc c x => exact fun _ _ _ y => o _ _ _ (y.comp C fun _ h => h)
  | ok d en' =>
    cases d with
    | bl c => exact fun Z' H' fps' D => o Z' H' fps' (C.comp (fun _ h => h) D)
    | _ => exact o.elim
theorem wi_and1 (ha : TI X G W lk Γ a Γ' m) : WI X G W lk Γ (.BoolOp .And [a] pos) Γ' m := pw_and1 ha
theorem wi_or1 (ha : TI X G W lk Γ a Γ' m) : WI X G W lk Γ (.BoolOp .Or [a] pos) Γ' m := pw_or1 ha
theorem wi_and {rest : List Expr} (ha : TI X G W lk Γ a Γ ma) (hb : WI X G W lk Γ (.BoolOp .And (b :: rest) pos) Γ mb) : WI X G W lk Γ (.BoolOp .And (a :: b :: rest) pos) Γ (mAnd ma mb) :=
  PW.imp (pw_and ha hb) fun σ H Q ⟨B, Z, en, fps, C, o⟩ => by
    refine ⟨B, Z, en, fps, C, ?_⟩
    unfold mAnd at o
    cases e : ma en with
    | bad => rw [e] at o; exact o
    | exc c x => rw [e] at o; exact o
    | ok d en' =>
      rw [e] at o
      cases d with
      | bl c =>
        intro Z' H' fps' D
        cases c with
        | true =>
          rw [if_pos rfl]
          exact ⟨B, Z', en', fps', D, o⟩
        | false =>
          rw [if_neg Bool.false_ne_true]
          exact o Z' H' fps' D
      | _ => exact o.elim
theorem wi_or {rest : List Expr} (ha : TI X G W lk Γ a Γ ma) (hb : WI X G W lk Γ (.BoolOp .Or (b :: rest) pos) Γ mb) : WI X G W lk Γ (.BoolOp .Or (a :: b :: rest) pos) Γ (mOr ma mb) :=
  PW.imp (pw_or ha hb) fun σ H Q ⟨B, Z, en, fps, C, o⟩ => by
    refine ⟨B, Z, en, fps, C, ?_⟩
    unfold mOr at o
    cases e : ma en with
    | bad => rw [e] at o; exact o
    | exc c x => rw [e] at o; exact o
    | ok d en' =>
      rw [e] at o
      cases d with
      | bl c =>
        intro Z' H' fps' D
        cases c with
        | true =>
          rw [if_pos rfl]
          exact o Z' H' fps' D
        | false =>
          rw [if_neg Bool.false_ne_true]
          exact ⟨B, Z', en', fps', D, o⟩
      | _ => exact o.elim
/-! ### and, or, not, if as values (of bools) -/
theorem ei_one {op : PySem.BoolOp} (ha : EI X G W lk Γ a κ L Γ' m) : EI X G W lk Γ (.BoolOp op [a] pos) κ L Γ' m := pe_one ha
theorem ei_and {rest : List Expr} {κ1 : Nat} {L1 : List Nat} (ha : EI X G W lk Γ a κ1 L1 Γ ma) (hb : EI X G W lk Γ (.BoolOp .And (b :: rest) pos) κ [] Γ mb) : EI X G W lk Γ (.BoolOp .And (a :: b :: rest) pos) κ [] Γ (mAnd ma mb) :=
  PE.imp (pe_and ha hb) fun σ H Q ⟨B, Z, en, fps, C, o⟩ => by
    refine ⟨B, Z, en, fps, C, ?_⟩
    unfold mAnd at o
    cases e : ma en with
    | bad => rw [e] at o; exact o
    | exc c x => rw [e] at o; exact o
    | ok d en' =>
      rw [e] at o
      cases d with
      | bl c =>
        intro v Z' H' fps' fp D h
        refine ⟨c, scv_bl h.own, ?_⟩
        cases c with
        | true =>
          rw [if_pos rfl]
          exact ⟨B, Z', en', fps', D, o⟩
        | false =>
          rw [if_neg Bool.false_ne_true]
          exact o _ Z' H' fps' [] D (.sc .bl)
      | _ => exact o.elim
theorem ei_or {rest : List Expr} {κ1 : Nat} {L1 : List Nat} (ha : EI X G W lk Γ a κ1 L1 Γ ma) (hb : EI X G W lk Γ (.BoolOp .Or (b :: rest) pos) κ [] Γ mb) : EI X G W lk Γ (.BoolOp .Or (a :: b :: rest) pos) κ [] Γ (mOr ma mb) :=
  PE.imp (pe_or ha hb) fun σ H Q ⟨B, Z, en, fps, C, o⟩ => by
    refine ⟨B, Z, en, fps, C, ?_⟩
    unfold mOr at o
    cases e : ma en with
    | bad => rw [e] at o; exact o
    | exc c x => rw [e] at o; exact o
    | ok d en' =>
      rw [e] at o
      cases d with
      | bl c =>
        intro v Z' H' fps' fp D h
        refine ⟨c, scv_bl h.own, ?_⟩
        cases c with
        | true =>
          rw [if_pos rfl]
          exact o _ Z' H' fps' [] D (.sc .bl)
        | false =>
          rw [if_neg Bool.false_ne_true]
          exact ⟨B, Z', en', fps', D, o⟩
      | _ => exact o.elim
theorem ei_not {κ1 : Nat} {L1 : List Nat} (ha : EI X G W lk Γ a κ1 L1 Γ' m) : EI X G W lk Γ (.UnaryOp .Not a pos) κ [] Γ' (mNot m) :=
  PE.imp (pe_not ha) fun σ H Q ⟨B, Z, en, fps, C, o⟩ => by
    refine ⟨B, Z, en, fps, C, ?_⟩
    unfold mNot at o
    cases e : m en with
    | bad => rw [e] at o; exact o
    | exc c x => rw [e] at o; exact o
    | ok d en' =>
      rw [e] at o
      cases d with
      | bl c => exact fun v Z' H' fps' fp D h => ⟨c, scv_bl h.own, o _ Z' H' fps' [] D (.sc .bl)⟩
      | _ => exact o.elim
def mIf (mc ma mb : EM) : EM := fun en => match mc en with
  | .ok (.bl true) en1 => ma en1
  | .ok (.bl false) en1 => mb en1
  | .ok _ _ => .bad
  | .exc c x => .exc c x
  | .bad => .bad
theorem ei_if {c : Expr} {mc : EM} (hc : TI X G W lk Γ c Γ mc) (ha : EI X G W lk Γ a κ L Γ' ma) (hb : EI X G W lk Γ b κ L Γ' mb) : EI X G W lk Γ (.IfExp c a b pos) κ L Γ' (mIf mc ma mb) :=
  PE.imp (pe_ifExp hc ha hb) fun σ H Q ⟨B, Z, en, fps, C, o⟩ => by
    refine ⟨B, Z, en, fps, C, ?_⟩
    unfold mIf at o
    cases e : mc en with
    | bad => rw [e] at o; exact o
    | exc c x => rw [e] at o; exact o
    | ok d en' =>
      rw [e] at o
      cases d with
      | bl c =>
        intro Z' H' fps' D
        cases c with
        | true =>
          rw [if_pos rfl]
          exact ⟨B, Z', en', fps', D, o⟩
        | false =>
          rw [if_neg Bool.false_ne_true]
          exact ⟨B, Z', en', fps', D, o⟩
      | _ => exact o.elim
end
end Im
/-! Argument lists, displays, lists made anew, built-in functions by their values. -/
namespace Im
open PySem PySem.Spec PyProof.Rows L2
section
variable (G : GI) (Z : Addr → Prop) (H : Hp)
/-- several values, each of its kind -/
inductive OwnK : List Nat → List V → List D → List (List Addr) → Prop
  | nil : OwnK [] [] [] []
  | cons {k : Nat} {ks : List Nat} {v : V} {d : D} {vs : List V} {ds : List D} {fp : List Addr} {fpl : List (List Addr)} : Own G Z H k v d fp → OwnK ks vs ds fpl → OwnK (k :: ks) (v :: vs) (d :: ds) (fp :: fpl)
end
section
variable {G : GI} {Z Z' : Addr → Prop} {H H' : Hp}
theorem ownK_keep (hI : StayI H H') (hz : ∀ a, Z a → Z' a ∧ ∀ o, H a = some o → H' a = some o) : ∀ {ks : List Nat} {vs : List V} {ds : List D} {fpl : List (List Addr)}, OwnK G Z H ks vs ds fpl → (∀ a ∈ fpl.flatten, ∀ o, H a = some o → H' a = some o) → OwnK G Z' H' ks vs ds fpl
  | _, _, _, _, .nil, _ => .nil
  | _, _, _, _, .cons h t, hf => by
    rw [List.flatten_cons] at hf
    exact .cons (own_keep hI hz h fun a ha => hf a (List.mem_append_left _ ha)) (ownK_keep hI hz t fun a ha => hf a (List.mem_append_right _ ha))
theorem OwnK.monoZ {ks : List Nat} {vs : List V} {ds : List D} {fpl : List (List Addr)} (h : OwnK G Z H ks vs ds fpl) (hz : ∀ a, Z a → Z' a) : OwnK G Z' H ks vs ds fpl := ownK_keep (fun _ _ e _ => e) (fun a z => ⟨hz a z, fun _ e => e⟩) h fun _ _ _ e => e
theorem OwnK.chg : ∀ {ks : List Nat} {vs : List V} {ds : List D} {fpl : List (List Addr)}, OwnK G Z H ks vs ds fpl → ∀ a ∈ fpl.flatten, ∃ o, H a = some o ∧ Chg o
  | _, _, _, _, .nil, a, h => by simp at h
  | _, _, _, _, .cons h t, a, ha => by
    rw [List.flatten_cons] at ha
    rcases List.mem_append.mp ha with q | q
    · exact h.chg a q
    · exact t.chg a q
theorem OwnK.ownL {κ : Nat} : ∀ {ks : List Nat} {vs : List V} {ds : List D} {fpl : List (List Addr)}, OwnK G Z H ks vs ds fpl → (∀ k ∈ ks, k = κ) → OwnL G Z H κ vs ds fpl.flatten
  | _, _, _, _, .nil, _ => .nil
  | _, _, _, _, .cons h t, hk => by
    rw [List.flatten_cons]
    have e := hk _ List.mem_cons_self
    subst e
    exact .cons h (t.ownL fun k m => hk k (List.mem_cons_of_mem _ m))
theorem OwnK.len : ∀ {ks : List Nat} {vs : List V} {ds : List D} {fpl : List (List Addr)}, OwnK G Z H ks vs ds fpl → vs.length = ks.length ∧ ds.length = ks.length
  | _, _, _, _, .nil => ⟨rfl, rfl⟩
  | _, _, _, _, .cons _ t => ⟨congrArg (· + 1) t.len.1, congrArg (· + 1) t.len.2⟩
theorem OwnL.append {κ : Nat} : ∀ {vs ws : List V} {ds es : List D} {fp fq : List Addr}, OwnL G Z H κ vs ds fp → OwnL G Z H κ ws es fq → OwnL G Z H κ (vs ++ ws) (ds ++ es) (fp ++ fq) := by
  intro vs
  induction vs with
  | nil => intro ws ds es fp fq h g; cases h; exact g
  | cons v vs ih =>
    intro ws ds es fp fq h g
    cases h with
    | cons h t => rw [List.append_assoc]; exact .cons h (ih t g)
end
structure HeldK (G : GI) (B : Bs) (L : List Nat) (Z : Addr → Prop) (H : Hp) (fps : Nat → List Addr) (κs : List Nat) (vs : List V) (ds : List D) (fpl : List (List Addr)) : Prop where
  own : OwnK G (Zl Z L fps) H κs vs ds fpl
  nd : fpl.flatten.Nodup
  nz : ∀ a ∈ fpl.flatten, ¬ Z a
  ds : ∀ a ∈ fpl.flatten, ∀ i, a ∉ fps i
  nw : ∀ a ∈ fpl.flatten, B.F a ∨ B.H a = none
section
variable {G : GI} {B : Bs} {W : WX} {lk lk' L L' L1 L2 : List Nat} {Z Z' : Addr → Prop} {σ σ' : St} {H H' : Hp} {Γ Γ' Γ1 Γ2 : List Nat} {en en' : En} {fps fps' : Nat → List Addr} {κ κ' : Nat} {κs : List Nat} {v : V} {d : D}
theorem HeldK.comp {vs : List V} {ds : List D} {fpl : List (List Addr)} (C : Cfg G B lk Z σ H Γ en fps) (hl : ∀ i ∈ lk, i ∈ lk') (h : HeldK G (rb H Z lk' fps B.pins) L Z' H' fps' κs vs ds fpl) : HeldK G B L Z' H' fps' κs vs ds fpl :=
  ⟨h.own, h.nd, h.nz, h.ds, fun a ha => by
    rcases h.nw a ha with ⟨j, hj, z⟩ | z
    · rcases C.newf j a z with y | y | y
      · exact .inl y
      · exact absurd (hl j (C.bok.lki j a y)) hj
      · exact .inr y
    · exact C.none_of z⟩
theorem HeldK.heldL {vs : List V} {ds : List D} {fpl : List (List Addr)} (h : HeldK G B L Z H fps κs vs ds fpl) (hk : ∀ k ∈ κs, k = κ) : HeldL G B L Z H fps κ vs ds fpl.flatten := ⟨h.own.ownL hk, h.nd, h.nz, h.ds, h.nw⟩
def OutA (G : GI) (B : Bs) (W : WX) (lk : List Nat) (κs : List Nat) (L : List Nat) (Γ' : List Nat) (σ : St) (Q : List V → Hp → Prop) : ResL → Prop
  | .ok ds en' => ∀ vs Z' H' fps' fpl, Cfg G B lk Z' σ H' Γ' en' fps' → HeldK G B L Z' H' fps' κs vs ds fpl → Q vs H'
  | .exc c x => ∀ C dd H', XOk G B H' c x C dd → W (.ref C) (some dd) σ H'
  | .bad => False
def tA (G : GI) (W : WX) (lk Γ κs L Γ' : List Nat) (m : AM) : TA := fun σ H Q =>
  ∃ B Z en fps, Cfg G B lk Z σ H Γ en fps ∧ OutA G B W lk κs L Γ' σ Q (m en)
def AI (X : Cx) (G : GI) (W : WX) (lk Γ : List Nat) (es : List Expr) (κs L Γ' : List Nat) (m : AM) : Prop := PA X es (tA G W lk Γ κs L Γ' m)
def mNil : AM := fun en => .ok [] en
def mCons (m : EM) (ms : AM) : AM := fun en => match m en with
  | .ok d en1 => match ms en1 with
    | .ok ds en2 => .ok (d :: ds) en2
    | .exc c x => .exc c x
    | .bad => .bad
  | .exc c x => .exc c x
  | .bad => .bad
variable {X : Cx} {pos : Pos} {m ma mb : EM} {ms : AM} {e a b : Expr} {es : List Expr}
theorem ai_nil : AI X G W lk Γ [] [] [] Γ mNil := PA.imp pa_nil fun σ H Q ⟨B, Z, en, fps, C, o⟩ => o [] Z H fps [] C ⟨.nil, List.nodup_nil, (fun _ h => nomatch h), (fun _ h => nomatch h), (fun _ h => nomatch h)⟩
theorem ai_cons (ha : EI X G W lk Γ e κ L1 Γ1 m) (hr : AI X G W (L1 ++ lk) Γ1 es κs L2 Γ2 ms) (hs : starEach (e :: es) X.env = (false, eval e X.env) :: starEach es X.env := by rfl) :
    AI X G W lk Γ (e :: es) (κ :: κs) (L1 ++ L2) Γ2 (mCons m ms) := PA.imp (pa_cons ha hr hs) fun σ H Q ⟨B, Z, en, fps, C, o⟩ => by
  refine ⟨B, Z, en, fps, C, ?_⟩
  unfold mCons at o
  cases ea : m en with
  | bad => rw [ea] at o; exact o.elim
  | exc c x => rw [ea] at o; exact o
  | ok d1 en1 =>
    rw [ea] at o
    dsimp only at o
    intro v1 Z1 H1 fps1 fp1 C1 h1
    refine ⟨rb H1 Z1 (L1 ++ lk) fps1 B.pins, Z1, en1, fps1, C1.rebase _, ?_⟩
    have hl : ∀ i ∈ lk, i ∈ L1 ++ lk := fun i h => List.mem_append_right _ h
    have hL : ∀ i ∈ L1, i ∈ L1 ++ lk := fun i h => List.mem_append_left _ h
    cases eb : ms en1 with
    | bad => rw [eb] at o; exact o.elim
    | exc c x => rw [eb] at o; exact fun Cc dd H' x => o _ _ _ (x.comp C1 hl)
    | ok ds en2 =>
      rw [eb] at o
      intro vs Z2 H2 fps2 fpl C2 h2
      have k1 := h1.stay C1 hl hL C2
      have k2 := HeldK.comp C1 hl h2
      have ap := held_apart C1 h1.own.chg h1.ds h2.nw
      refine o (v1 :: vs) Z2 H2 fps2 (fp1 :: fpl) (C1.comp hl C2) ⟨.cons (k1.own.monoZ fun a z => ?_) (k2.own.monoZ fun a z => ?_), ?_, fun a h => ?_, fun a h => ?_, fun a h => ?_⟩
      · exact z.elim .inl fun ⟨i, m, q⟩ => .inr ⟨i, List.mem_append_left _ m, q⟩
      · exact z.elim .inl fun ⟨i, m, q⟩ => .inr ⟨i, List.mem_append_right _ m, q⟩
      · rw [List.flatten_cons, List.nodup_append]
        exact ⟨k1.nd, k2.nd, fun x hx y hy e => ap x hx (e ▸ hy)⟩
      all_goals (rw [List.flatten_cons] at h; rcases List.mem_append.mp h with h | h)
      · exact k1.nz a h
      · exact k2.nz a h
      · exact k1.ds a h
      · exact k2.ds a h
      · exact k1.nw a h
      · exact k2.nw a h
/-! ### displays -/
def mLst (ms : AM) : EM := fun en => match ms en with
  | .ok ds en' => .ok (.lst ds) en'
  | .exc c x => .exc c x
  | .bad => .bad
def mTup (ms : AM) : EM := fun en => match ms en with
  | .ok ds en' => .ok (.tup ds) en'
  | .exc c x => .exc c x
  | .bad => .bad
theorem ei_lst (h : AI X G W lk Γ es κs L Γ' ms) (hk : ∀ k ∈ κs, k = κ := by decide) (hz : κs.length ≤ 1000 := by decide) : EI X G W lk Γ (.List es pos) (κ + 1) L Γ' (mLst ms) := PE.imp (pe_lst h) fun σ H Q ⟨B, Z, en, fps, C, o⟩ => by
  refine ⟨B, Z, en, fps, C, ?_⟩
  unfold mLst at o
  cases e : ms en with
  | bad => rw [e] at o; exact o
  | exc c x => rw [e] at o; exact o
  | ok ds en' =>
    rw [e] at o
    intro vs Z' H' fps' fpl C' h'
    exact ⟨by rw [h'.own.len.1]; exact Nat.le_trans hz (by decide), fun p hp => o _ _ _ _ _ (C'.grow hp) ((h'.heldL hk).lst C' hp)⟩
theorem ei_tup {n : Nat} (h : AI X G W lk Γ es κs L Γ' ms) (hk : ∀ k ∈ κs, k = κ := by decide) (hz : κs.length ≤ 1000 := by decide) : EI X G W lk Γ (.Tuple es n pos) κ L Γ' (mTup ms) := PE.imp (pe_tup h) fun σ H Q ⟨B, Z, en, fps, C, o⟩ => by
  refine ⟨B, Z, en, fps, C, ?_⟩
  unfold mTup at o
  cases e : ms en with
  | bad => rw [e] at o; exact o
  | exc c x => rw [e] at o; exact o
  | ok ds en' =>
    rw [e] at o
    intro vs Z' H' fps' fpl C' h'
    exact ⟨by rw [h'.own.len.1]; exact Nat.le_trans hz (by decide), fun p hp => o _ _ _ _ _ (C'.grow hp) ((h'.heldL hk).tup C' hp)⟩
/-! ### given up below a depth; a scalar -/
theorem Cfg.addZ (C : Cfg G B lk Z σ H Γ en fps) {S : Addr → Prop} (h1 : ∀ a, S a → ∃ o, H a = some o ∧ NT o) (h2 : ∀ a, S a → ∀ i, a ∉ fps i) (h3 : ∀ a, S a → B.F a ∨ B.H a = none) : Cfg G B lk (fun a => Z a ∨ S a) σ H Γ en fps where
  bok := C.bok
  len := C.len
  rep := fun i d e => by
    obtain ⟨v, a, b⟩ := C.rep i d e
    exact ⟨v, a, b.monoZ fun _ z => .inl z⟩
  emp := C.emp
  nd := C.nd
  dis := C.dis
  nz := fun i a h z => z.elim (C.nz i a h) fun s => h2 a s i h
  zt := fun a z => z.elim (C.zt a) (h1 a)
  tab := C.tab
  keep := C.keep
  newf := C.newf
  lkd := C.lkd
  lks := fun i a h => (C.lks i a h).elim (fun z => .inl (.inl z)) .inr
  zb := fun a z => .inl (C.zb a z)
  zn := fun a z => z.elim (C.zn a) fun s => (h3 a s).elim (fun q => .inr (.inl q)) fun q => .inr (.inr (.inr q))
  pin := C.pin
theorem Held.lower {fp : List Addr} (C : Cfg G B lk Z σ H Γ en fps) (h : Held G B L Z H fps κ v d fp) (hj : κ' ≤ κ) : ∃ Z' fp', Cfg G B lk Z' σ H Γ en fps ∧ Held G B L Z' H fps κ' v d fp' := by
  obtain ⟨fp', sub, o⟩ := h.own.lower hj h.nd
  refine ⟨fun a => Z a ∨ (a ∈ fp ∧ a ∉ fp'), fp', C.addZ (fun a s => ?_) (fun a s => h.ds a s.1) (fun a s => h.nw a s.1), ⟨o.monoZ fun a z => ?_, h.nd.sublist sub, fun a m z => ?_, fun a m => h.ds a (sub.subset m), fun a m => h.nw a (sub.subset m)⟩⟩
  · obtain ⟨o, e, t⟩ := h.own.chg a s.1
    exact ⟨o, e, t.nt⟩
  · rcases z with (z | z) | z
    · exact .inl (.inl z)
    · exact .inr z
    · exact .inl (.inr z)
  · rcases z with z | z
    · exact h.nz a (sub.subset m) z
    · exact z.2 m
theorem ei_low (h : EI X G W lk Γ e κ L Γ' m) (hj : κ' ≤ κ := by decide) : EI X G W lk Γ e κ' L Γ' m := PE.imp h fun σ H Q ⟨B, Z, en, fps, C, o⟩ => by
  refine ⟨B, Z, en, fps, C, ?_⟩
  cases e : m en with
  | bad => rw [e] at o; exact o
  | exc c x => rw [e] at o; exact o
  | ok d en' =>
    rw [e] at o
    intro v Z' H' fps' fp C' h'
    obtain ⟨Z2, fp2, C2, h2⟩ := h'.lower C' hj
    exact o v Z2 H' fps' fp2 C2 h2
def mSc (m : EM) : EM := fun en => match m en with
  | .ok d en' => if scD d then .ok d en' else .bad
  | r => r
/-- a scalar: nothing is lent any more -/
theorem ei_sc (h : EI X G W lk Γ e κ L Γ' m) : EI X G W lk Γ e κ' [] Γ' (mSc m) := PE.imp h fun σ H Q ⟨B, Z, en, fps, C, o⟩ => by
  refine ⟨B, Z, en, fps, C, ?_⟩
  unfold mSc at o
  cases e : m en with
  | bad => rw [e] at o; exact o
  | exc c x => rw [e] at o; exact o
  | ok d en' =>
    rw [e] at o
    dsimp only at o
    intro v Z' H' fps' fp C' h'
    split at o
    · rename_i s
      exact o v Z' H' fps' [] C' (.sc (scD_scv h'.own s).1)
    · exact o.elim
/-- lent no longer: given up -/
theorem oi_v (h : EI X G W lk Γ e 0 [] Γ' m) : OI X G W lk Γ e (.v []) Γ' m := PE.imp h fun σ H Q ⟨B, Z, en, fps, C, o⟩ => by
  refine ⟨B, Z, en, fps, C, ?_⟩
  cases e : m en with
  | bad => rw [e] at o; exact o
  | exc c x => rw [e] at o; exact o
  | ok d en' =>
    rw [e] at o
    intro v Z' H' fps' fp C' h'
    have q := h'.own
    have z := q.z0
    rw [z] at q
    exact o v Z' H' fps' C' (.inl (q.monoZ fun a z => Zl_nil.mp z))
theorem Vw.lst {ds : List D} (h : Vw G L Z H fps v (.lst ds)) : ∃ a vs, v = .ref a ∧ H a = some (.lst vs) ∧ OwnL G Z H 0 vs ds [] := by
  rcases h with h | ⟨a, vs, ds', e1, e2, e3, h, _⟩
  · cases h with
    | lst z e h => exact ⟨_, _, rfl, e, h⟩
  · cases e2
    exact ⟨a, vs, e1, e3, h⟩
/-- a list made anew of things that stand still -/
theorem fresh_lst {vs : List V} {ds : List D} {p : Addr} (C : Cfg G B lk Z σ H Γ en fps) (h : OwnL G Z H 0 vs ds []) (hp : H p = none) : Held G B [] Z (upd H p (.lst vs)) fps 1 (.ref p) (.lst ds) [p] :=
  HeldL.lst (κ := 0) (fp := []) C ⟨h.monoZ fun a z => Zl_nil.mpr z, List.nodup_nil, (fun _ h => nomatch h), (fun _ h => nomatch h), (fun _ h => nomatch h)⟩ hp
theorem fresh_tup {vs : List V} {ds : List D} {p : Addr} (C : Cfg G B lk Z σ H Γ en fps) (h : OwnL G Z H 0 vs ds []) (hp : H p = none) : Held G B [] Z (upd H p (.tup vs)) fps 0 (.ref p) (.tup ds) [] :=
  HeldL.tup (κ := 0) (fp := []) C ⟨h.monoZ fun a z => Zl_nil.mpr z, List.nodup_nil, (fun _ h => nomatch h), (fun _ h => nomatch h), (fun _ h => nomatch h)⟩ hp
/-- the largest length that we let a list grow to -/
abbrev lim : Nat := 1000000
def dCat : D → D → Option D
  | .lst xs, .lst ys => if xs.length + ys.length ≤ lim then some (.lst (xs ++ ys)) else none
  | _, _ => none
theorem lim_ok {n : Nat} (h : n ≤ lim) : n ≤ sizeLine := Nat.le_trans h (by decide)
theorem mB_cases {f : D → D → Option D} {md1 md2 : Md} {R : V → V → Hp → Prop} {Q : VK} {κ : Nat} {L : List Nat} (o : OutE G B W lk κ L Γ2 σ Q (mB f ma mb en))
    (h : ∀ d1 d2 d v1 v2 Z2 H2 fps2 en2, f d1 d2 = some d → Cfg G B lk Z2 σ H2 Γ2 en2 fps2 → md1.P G B Z2 H2 fps2 v1 d1 → md2.P G B Z2 H2 fps2 v2 d2 →
      (∀ v Z' H' fps' fp, Cfg G B lk Z' σ H' Γ2 en2 fps' → Held G B L Z' H' fps' κ v d fp → Q v H') → R v1 v2 H2) : Out2 G B W lk md1 md2 Γ2 σ R (mm2 ma mb en) := by
  unfold mB at o
  cases e : mm2 ma mb en with
  | bad => rw [e] at o; exact o.elim
  | exc c x => rw [e] at o; exact o
  | ok d1 d2 en2 =>
    rw [e] at o
    dsimp only at o
    intro v1 v2 Z2 H2 fps2 C2 h1 h2
    cases ef : f d1 d2 with
    | none => rw [ef] at o; exact o.elim
    | some d =>
      rw [ef] at o
      exact h d1 d2 d v1 v2 Z2 H2 fps2 en2 ef C2 h1 h2 o
theorem ei_cat (ha : OI X G W lk Γ a (.v L1) Γ1 ma) (hb : OI X G W (L1 ++ lk) Γ1 b (.v L2) Γ2 mb) : EI X G W lk Γ (.BinOp a .Add b pos) 1 [] Γ2 (mB dCat ma mb) :=
  PE.imp (pe_op op_cat ha hb) fun σ H Q ⟨B, Z, en, fps, C, o⟩ => run2 (mda := .v L1) (mdb := .v L2) C (mB_cases o fun d1 d2 d v1 v2 Z2 H2 fps2 en2 ef C2 h1 h2 o => by
    unfold dCat at ef
    split at ef
    · rename_i xs ys
      split at ef
      · rename_i hz
        cases ef
        obtain ⟨p, vs, rfl, e1, o1⟩ := Vw.lst h1
        obtain ⟨q, ws, rfl, e2, o2⟩ := Vw.lst h2
        refine ⟨p, q, vs, ws, rfl, rfl, e1, e2, by rw [o1.len, o2.len]; exact lim_ok hz, fun r hr => ?_⟩
        exact o _ _ _ _ _ (C2.grow hr) (fresh_lst C2 (o1.append o2) hr)
      · cases ef
    · cases ef)
theorem ownL_rep {vs : List V} {ds : List D} (h : OwnL G Z H 0 vs ds []) : ∀ n : Nat, OwnL G Z H 0 (List.replicate n vs).flatten (List.replicate n ds).flatten []
  | 0 => .nil
  | n + 1 => by
    have q := h.append (ownL_rep h n)
    simpa [List.replicate_succ] using q
def dRep : D → D → Option D
  | .lst xs, .int n => if -1000000 ≤ n ∧ n ≤ 1000000 ∧ xs.length * n.toNat ≤ lim then some (.lst (List.replicate n.toNat xs).flatten) else none
  | _, _ => none
theorem own_int {k : Nat} {n : Int} {fp : List Addr} (h : Own G Z H k v (.int n) fp) : v = .int n := by cases h; rfl
theorem own_str {k : Nat} {x : Str} {fp : List Addr} (h : Own G Z H k v (.str x) fp) : v = .str x := by cases h; rfl
theorem ei_rep {md : Md} (ha : OI X G W lk Γ a (.v L1) Γ1 ma) (hb : OI X G W (L1 ++ lk) Γ1 b md Γ2 mb) : EI X G W lk Γ (.BinOp a .Mult b pos) 1 [] Γ2 (mB dRep ma mb) :=
  PE.imp (pe_op op_rep ha hb) fun σ H Q ⟨B, Z, en, fps, C, o⟩ => run2 (mda := .v L1) (mdb := md) C (mB_cases o fun d1 d2 d v1 v2 Z2 H2 fps2 en2 ef C2 h1 h2 o => by
    unfold dRep at ef
    split at ef
    · rename_i xs n
      split at ef
      · rename_i hz
        cases ef
        obtain ⟨p, vs, rfl, e1, o1⟩ := Vw.lst h1
        obtain ⟨_, _, _, o2⟩ := Md.any h2
        have e2 := own_int o2
        subst e2
        refine ⟨p, n, vs, rfl, rfl, e1, by omega, by omega, by rw [o1.len]; exact lim_ok hz.2.2, fun r hr => ?_⟩
        exact o _ _ _ _ _ (C2.grow hr) (fresh_lst C2 (ownL_rep o1 _) hr)
      · cases ef
    · cases ef)
/-! ### built-in functions of one and two arguments, a scalar back -/
def Lk1 (G : GI) (r : List V → Hp → VK → Prop) (f : D → Option D) : Prop := ∀ (H : Hp) (v : V) (d d' : D) (Q : VK), (∃ Zx k fp, Own G Zx H k v d fp) → f d = some d' → (∀ v', ScV v' d' → Q v' H) → r [v] H Q
def m1 (f : D → Option D) (m : EM) : EM := fun en => match m en with
  | .ok d en' => match f d with
    | some d' => .ok d' en'
    | none => .bad
  | .exc c x => .exc c x
  | .bad => .bad
theorem out1 {md : Md} {r : V → Hp → Prop} {Q : VK} {f : D → Option D} {L' : List Nat} (o : OutE G B W lk κ L' Γ' σ Q (m1 f m en))
    (h : ∀ d d' v Z2 H2 fps2 en2, f d = some d' → Cfg G B lk Z2 σ H2 Γ' en2 fps2 → md.P G B Z2 H2 fps2 v d → (∀ v Z' H' fps' fp, Cfg G B lk Z' σ H' Γ' en2 fps' → Held G B L' Z' H' fps' κ v d' fp → Q v H') → r v H2) :
    OutO G B W lk md Γ' σ r (m en) := by
  unfold m1 at o
  cases e : m en with
  | bad => rw [e] at o; exact o.elim
  | exc c x => rw [e] at o; exact o
  | ok d en2 =>
    rw [e] at o
    dsimp only at o
    intro v Z2 H2 fps2 C2 h2
    cases ef : f d with
    | none => rw [ef] at o; exact o.elim
    | some d' =>
      rw [ef] at o
      exact h d d' v Z2 H2 fps2 en2 ef C2 h2 o
variable {x : Str} {p : Pos} {id T : String} {r : List V → Hp → VK → Prop}
theorem ei_b1 {f : D → Option D} {md : Md} (hc : CallR X (.builtin id) r) (lnk : Lk1 G r f) (hg : Gl X x) (hm : X.mg x = none) (hv : bootBuiltins x = some (.builtin id)) (ha : OI X G W lk Γ a md Γ' m) (hn : x ≠ "__name__" := by decide) (hdb : (x == ("__debug__" : Str)) = false := by decide)
    (he : starEach (a :: []) X.env = (false, eval a X.env) :: starEach [] X.env := by rfl) : EI X G W lk Γ (.Call (.Name x p) [a] [] pos) κ [] Γ' (m1 f m) :=
  PE.imp (pe_callB hc hg hm hv (pa_cons ha pa_nil he) hn hdb he rfl) fun σ H Q ⟨B, Z, en, fps, C, o⟩ => ⟨B, Z, en, fps, C, out1 (md := md) (r := fun v H2 => r [v] H2 Q) o fun d d' v Z2 H2 fps2 en2 ef C2 h2 o => lnk H2 v d d' Q (Md.any h2) ef fun v' s => o v' Z2 H2 fps2 [] C2 (.sc s)⟩
theorem ei_t1 {f : D → Option D} {md : Md} (hc : CallR X (.type T) r) (lnk : Lk1 G r f) (hg : Gl X x) (hm : X.mg x = none) (hv : bootBuiltins x = some (.type T)) (ha : OI X G W lk Γ a md Γ' m) (hn : x ≠ "__name__" := by decide) (hdb : (x == ("__debug__" : Str)) = false := by decide)
    (he : starEach (a :: []) X.env = (false, eval a X.env) :: starEach [] X.env := by rfl) : EI X G W lk Γ (.Call (.Name x p) [a] [] pos) κ [] Γ' (m1 f m) :=
  PE.imp (pe_callTy hc hg hm hv (pa_cons ha pa_nil he) hn hdb he rfl) fun σ H Q ⟨B, Z, en, fps, C, o⟩ => ⟨B, Z, en, fps, C, out1 (md := md) (r := fun v H2 => r [v] H2 Q) o fun d d' v Z2 H2 fps2 en2 ef C2 h2 o => lnk H2 v d d' Q (Md.any h2) ef fun v' s => o v' Z2 H2 fps2 [] C2 (.sc s)⟩
def LkB2 (G : GI) (r : List V → Hp → VK → Prop) (f : D → D → Option D) : Prop := ∀ (H : Hp) (v1 v2 : V) (d1 d2 d : D) (Q : VK), (∃ Zx k fp, Own G Zx H k v1 d1 fp) → (∃ Zx k fp, Own G Zx H k v2 d2 fp) → f d1 d2 = some d → (∀ v, ScV v d → Q v H) → r [v1, v2] H Q
theorem ei_b2 {f : D → D → Option D} {md1 md2 : Md} (hc : CallR X (.builtin id) r) (lnk : LkB2 G r f) (hg : Gl X x) (hm : X.mg x = none) (hv : bootBuiltins x = some (.builtin id)) (ha : OI X G W lk Γ a md1 Γ1 ma) (hb : OI X G W (md1.L ++ lk) Γ1 b md2 Γ2 mb) (hn : x ≠ "__name__" := by decide) (hdb : (x == ("__debug__" : Str)) = false := by decide)
    (he : starEach (a :: [b]) X.env = (false, eval a X.env) :: starEach [b] X.env := by rfl) (he2 : starEach [b] X.env = (false, eval b X.env) :: starEach [] X.env := by rfl) (hpl : (backTo pos (starEach [b] X.env)).any (·.1) = false := by rfl) :
    EI X G W lk Γ (.Call (.Name x p) [a, b] [] pos) κ [] Γ2 (mB f ma mb) :=
  PE.imp (pe_callB hc hg hm hv (pa_cons ha (pa_cons hb pa_nil he2) he) hn hdb he hpl) fun σ H Q ⟨B, Z, en, fps, C, o⟩ => run2 (R := fun v1 v2 H2 => r [v1, v2] H2 Q) C (mB_cases o fun d1 d2 d v1 v2 Z2 H2 fps2 en2 ef C2 h1 h2 o =>
    lnk H2 v1 v2 d1 d2 d Q (Md.any h1) (Md.any h2) ef fun v' s => o v' Z2 H2 fps2 [] C2 (.sc s))
end
end Im
/-! Subscripts and slices, read. -/
namespace Im
open PySem PySem.Spec PyProof.Rows L2
/-- the names' meanings and the data's go together -/
structure Lnk (X : Cx) (G : GI) : Prop where
  K : G.K = X.K
  fn : ∀ x f, G.fn x = some f → X.mg x = some (.ref f)
  cls : ∀ x f, G.cls x = some f → X.mg x = some (.ref f)
section
variable {G : GI} {B : Bs} {W : WX} {lk lk' L L' L1 L2 : List Nat} {Z Z' : Addr → Prop} {σ σ' : St} {H H' : Hp} {Γ Γ' Γ1 Γ2 Γ3 : List Nat} {en en' : En} {fps fps' : Nat → List Addr} {κ κ' : Nat} {κs : List Nat} {v : V} {d : D}
variable {X : Cx} {pos : Pos} {m ma mb : EM} {e a b : Expr}
theorem atI_of {α β : Type} {xs : List α} {ys : List β} {i : Int} {d : α} (hl : ys.length = xs.length) (h : atI xs i = some d) : ∃ j : Nat, xs[j]? = some d ∧ ∀ v, ys[j]? = some v → atI ys i = some v := by
  unfold atI at h
  cases e : ixN xs.length i with
  | none => rw [e] at h; cases h
  | some j =>
    rw [e] at h
    refine ⟨j, h, fun v hv => ?_⟩
    unfold atI
    rw [hl, e]
    exact hv
theorem OwnL.atI {vs : List V} {ds : List D} {fp : List Addr} {i : Int} {d : D} (h : OwnL G Z H κ vs ds fp) (e : atI ds i = some d) : ∃ v fp', atI vs i = some v ∧ Own G Z H κ v d fp' ∧ fp'.Sublist fp := by
  obtain ⟨j, h1, h2⟩ := atI_of (ys := vs) h.len e
  obtain ⟨v, fp', a, b, c⟩ := h.get h1
  exact ⟨v, fp', h2 v a, b, c⟩
theorem atI_map {α β : Type} (f : α → β) (xs : List α) (i : Int) : atI (xs.map f) i = (atI xs i).map f := by
  unfold atI
  rw [List.length_map]
  cases ixN xs.length i with
  | none => rfl
  | some j => simp
def dIx : D → D → Option D
  | .lst xs, .int i => atI xs i
  | .tup xs, .int i => atI xs i
  | .scr ns, .int i => (atI ns i).map .int
  | .str z, .int i => if z.length ≤ lim then (atI z.cps.toList i).map fun c => .str ⟨#[c]⟩ else none
  | _, _ => none
theorem own_lst0 {Zx : Addr → Prop} {ds : List D} {fp : List Addr} (h : Own G Zx H 0 v (.lst ds) fp) : ∃ a vs, v = .ref a ∧ H a = some (.lst vs) ∧ OwnL G Zx H 0 vs ds [] := by
  cases h with
  | lst z e h => exact ⟨_, _, rfl, e, h⟩
theorem own_lstS {Zx : Addr → Prop} {ds : List D} {fp : List Addr} (h : Own G Zx H (κ + 1) v (.lst ds) fp) : ∃ a vs fp', v = .ref a ∧ H a = some (.lst vs) ∧ OwnL G Zx H κ vs ds fp' ∧ fp = a :: fp' := by
  cases h with
  | own e h => exact ⟨_, _, _, rfl, e, h, rfl⟩
theorem own_tup {Zx : Addr → Prop} {ds : List D} {fp : List Addr} (h : Own G Zx H κ v (.tup ds) fp) : ∃ a vs, v = .ref a ∧ H a = some (.tup vs) ∧ OwnL G Zx H κ vs ds fp := by
  cases h with
  | tup e h => exact ⟨_, _, rfl, e, h⟩
theorem own_scr {Zx : Addr → Prop} {ns : List Int} {fp : List Addr} (h : Own G Zx H κ v (.scr ns) fp) : ∃ a, v = .ref a ∧ ScrAt G.K H a ns := by
  cases h with
  | scr e => exact ⟨_, rfl, e⟩
/-- an item of what stands still (or is lent) -/
theorem ix_item {Q : VK} {d1 d2 : D} {v1 v2 : V} {Zx : Addr → Prop} {k : Nat} {fp2 : List Addr} (hK : G.K = X.K) (ef : dIx d1 d2 = some d) (h1 : Own G Zx H 0 v1 d1 []) (h2 : Own G Z' H k v2 d2 fp2) (q : ∀ v, Own G Zx H 0 v d [] → Q v H) : rIx X.K v1 v2 H Q := by
  unfold dIx at ef
  split at ef
  · rename_i xs i
    have e2 := own_int h2
    obtain ⟨a, vs, e1, e3, o⟩ := own_lst0 h1
    obtain ⟨w, fp', e4, o4, s⟩ := o.atI ef
    obtain rfl : fp' = [] := List.sublist_nil.mp s
    exact .inl ⟨a, vs, i, w, e1, e2, .of e3, e4, q w o4⟩
  · rename_i xs i
    have e2 := own_int h2
    obtain ⟨a, vs, e1, e3, o⟩ := own_tup h1
    obtain ⟨w, fp', e4, o4, s⟩ := o.atI ef
    obtain rfl : fp' = [] := List.sublist_nil.mp s
    exact .inr (.inl ⟨a, vs, i, w, e1, e2, .of e3, e4, q w o4⟩)
  · rename_i ns i
    have e2 := own_int h2
    obtain ⟨a, e1, s⟩ := own_scr h1
    cases en : atI ns i with
    | none => rw [en] at ef; cases ef
    | some n =>
      rw [en] at ef
      cases ef
      exact .inl ⟨a, _, i, .int n, e1, e2, hK ▸ s.sq, by rw [atI_map, en]; rfl, q _ .int⟩
  · rename_i z i
    have e2 := own_int h2
    have e1 := own_str h1
    split at ef
    · rename_i hz
      cases en : atI z.cps.toList i with
      | none => rw [en] at ef; cases ef
      | some c =>
        rw [en] at ef
        cases ef
        exact .inr (.inr ⟨z, i, c, e1, e2, lim_ok hz, en, q _ .str⟩)
    · cases ef
  · cases ef
theorem ei_ix {md : Md} (hK : G.K = X.K) (ha : OI X G W lk Γ a (.e 0 L) Γ1 ma) (hb : OI X G W (L ++ lk) Γ1 b md Γ2 mb) (hs : PlainIx b) : EI X G W lk Γ (.Subscript a b pos) 0 L Γ2 (mB dIx ma mb) :=
  PE.imp (pe_ix ix_seq ha hb hs) fun σ H Q ⟨B, Z, en, fps, C, o⟩ => run2 (mda := .e 0 L) (mdb := md) C (mB_cases o fun d1 d2 d v1 v2 Z2 H2 fps2 en2 ef C2 ⟨fp, h1⟩ h2 o => by
    obtain ⟨_, _, _, o2⟩ := Md.any h2
    have q := h1.own
    have z := q.z0
    rw [z] at q
    exact ix_item hK ef q o2 fun v o1 => o v _ _ _ [] C2 (held_frz o1))
/-- an item of a list that is seen, or of a temporary -/
theorem ei_ixv {md : Md} (hK : G.K = X.K) (ha : OI X G W lk Γ a (.v L) Γ1 ma) (hb : OI X G W (L ++ lk) Γ1 b md Γ2 mb) (hs : PlainIx b) : EI X G W lk Γ (.Subscript a b pos) 0 [] Γ2 (mB dIx ma mb) :=
  PE.imp (pe_ix ix_seq ha hb hs) fun σ H Q ⟨B, Z, en, fps, C, o⟩ => run2 (mda := .v L) (mdb := md) C (mB_cases o fun d1 d2 d v1 v2 Z2 H2 fps2 en2 ef C2 h1 h2 o => by
    obtain ⟨_, _, _, o2⟩ := Md.any h2
    rcases h1 with h1 | ⟨a, vs, ds, e1, e2, e3, h1, _⟩
    · exact ix_item hK ef h1 o2 fun v o1 => o v _ _ _ [] C2 (held_frz (o1.monoZ fun a z => Zl_nil.mpr z))
    · subst e1 e2
      unfold dIx at ef
      split at ef
      · rename_i xs i q
        cases q
        have e2 := own_int o2
        obtain ⟨w, fp', e4, o4, s⟩ := h1.atI ef
        obtain rfl : fp' = [] := List.sublist_nil.mp s
        exact .inl ⟨a, vs, i, w, rfl, e2, .of e3, e4, o w _ _ _ [] C2 (held_frz (o4.monoZ fun a z => Zl_nil.mpr z))⟩
      all_goals (first | (rename_i q; cases q; done) | (rename_i q _; cases q; done) | cases ef))
/-- an item moved out of a temporary tuple -/
def dIxT : D → D → Option D
  | .tup xs, .int i => atI xs i
  | _, _ => none
theorem ei_ixT {md : Md} (ha : OI X G W lk Γ a (.e κ L) Γ1 ma) (hb : OI X G W (L ++ lk) Γ1 b md Γ2 mb) (hs : PlainIx b) : EI X G W lk Γ (.Subscript a b pos) κ L Γ2 (mB dIxT ma mb) :=
  PE.imp (pe_ix ix_seq ha hb hs) fun σ H Q ⟨B, Z, en, fps, C, o⟩ => run2 (mda := .e κ L) (mdb := md) C (mB_cases o fun d1 d2 d v1 v2 Z2 H2 fps2 en2 ef C2 ⟨fp, h1⟩ h2 o => by
    obtain ⟨_, _, _, o2⟩ := Md.any h2
    unfold dIxT at ef
    split at ef
    · rename_i xs i _
      have e2 := own_int o2
      obtain ⟨a, vs, e1, e3, q⟩ := own_tup h1.own
      obtain ⟨w, fp', e4, o4, s⟩ := q.atI ef
      exact .inr (.inl ⟨a, vs, i, w, e1, e2, .of e3, e4, o w _ _ _ fp' C2 ⟨o4, h1.nd.sublist s, fun a m => h1.nz a (s.subset m), fun a m => h1.ds a (s.subset m), fun a m => h1.nw a (s.subset m)⟩⟩)
    · cases ef)
/-- an item moved out of a temporary list -/
def dIxL : D → D → Option D
  | .lst xs, .int i => atI xs i
  | _, _ => none
theorem ei_ixL {md : Md} (ha : OI X G W lk Γ a (.e (κ + 1) L) Γ1 ma) (hb : OI X G W (L ++ lk) Γ1 b md Γ2 mb) (hs : PlainIx b) : EI X G W lk Γ (.Subscript a b pos) κ L Γ2 (mB dIxL ma mb) :=
  PE.imp (pe_ix ix_seq ha hb hs) fun σ H Q ⟨B, Z, en, fps, C, o⟩ => run2 (mda := .e (κ + 1) L) (mdb := md) C (mB_cases o fun d1 d2 d v1 v2 Z2 H2 fps2 en2 ef C2 ⟨fp, h1⟩ h2 o => by
    obtain ⟨_, _, _, o2⟩ := Md.any h2
    unfold dIxL at ef
    split at ef
    · rename_i xs i _
      have e2 := own_int o2
      obtain ⟨a, vs, fq, e1, e3, q, e5⟩ := own_lstS h1.own
      obtain ⟨w, fp', e4, o4, s⟩ := q.atI ef
      have s' : fp'.Sublist fp := by rw [e5]; exact s.cons _
      exact .inl ⟨a, vs, i, w, e1, e2, .of e3, e4, o w _ _ _ fp' C2 ⟨o4, h1.nd.sublist s', fun a m => h1.nz a (s'.subset m), fun a m => h1.ds a (s'.subset m), fun a m => h1.nw a (s'.subset m)⟩⟩
    · cases ef)
/-! ### slices -/
inductive ResP where
  | ok (o : Option Int) (en : En) | exc (c : Str) (x : D) | bad
def OutP (G : GI) (B : Bs) (W : WX) (lk Γ' : List Nat) (σ : St) (Q : Option Int → Hp → Prop) : ResP → Prop
  | .ok c en' => ∀ Z' H' fps', Cfg G B lk Z' σ H' Γ' en' fps' → Q c H'
  | .exc c x => ∀ C dd H', XOk G B H' c x C dd → W (.ref C) (some dd) σ H'
  | .bad => False
def tP (G : GI) (W : WX) (lk Γ Γ' : List Nat) (m : En → ResP) : TO := fun σ H Q =>
  ∃ B Z en fps, Cfg G B lk Z σ H Γ en fps ∧ OutP G B W lk Γ' σ Q (m en)
def PI_ (X : Cx) (G : GI) (W : WX) (lk Γ : List Nat) (e : Option Expr) (Γ' : List Nat) (m : En → ResP) : Prop := PO X e (tP G W lk Γ Γ' m)
def mpN : En → ResP := fun en => .ok none en
def mpS (m : EM) : En → ResP := fun en => match m en with
  | .ok (.int i) en' => .ok (some i) en'
  | .ok _ _ => .bad
  | .exc c x => .exc c x
  | .bad => .bad
theorem PO.imp {X : Cx} {e : Option Expr} {t t' : TO} (h : PO X e t) (i : ∀ σ H Q, t' σ H Q → t σ H Q) : PO X e t' := ⟨fun pins s σ H Q I q => h.run pins s σ H Q I (i σ H Q q)⟩
theorem pi_n : PI_ X G W lk Γ none Γ mpN := PO.imp po_none fun σ H Q ⟨B, Z, en, fps, C, o⟩ => o _ _ _ C
theorem pi_s {md : Md} (h : OI X G W lk Γ e md Γ' m) : PI_ X G W lk Γ (some e) Γ' (mpS m) := PO.imp (po_some h) fun σ H Q ⟨B, Z, en, fps, C, o⟩ => by
  refine ⟨B, Z, en, fps, C, ?_⟩
  unfold mpS at o
  cases e : m en with
  | bad => rw [e] at o; exact o
  | exc c x => rw [e] at o; exact o
  | ok d en' =>
    rw [e] at o
    cases d with
    | int i =>
      intro v Z' H' fps' C' h'
      obtain ⟨_, _, _, q⟩ := Md.any h'
      exact ⟨i, own_int q, o _ _ _ C'⟩
    | _ => exact o.elim
def cutL {α : Type} (xs : List α) (lo hi : Option Int) : List α := (xs.drop (HT.sIx xs.length 0 lo)).take (HT.sIx xs.length xs.length hi - HT.sIx xs.length 0 lo)
def dSlice (d : D) (lo hi : Option Int) : Option D := match d with
  | .lst xs => some (.lst (cutL xs lo hi))
  | .scr ns => some (.lst ((cutL ns lo hi).map .int))
  | .str z => if z.length ≤ lim then some (.str (cutS z lo hi)) else none
  | _ => none
def mSl (ma : EM) (ml mh : En → ResP) : EM := fun en => match ma en with
  | .ok d en1 => match ml en1 with
    | .ok lo en2 => match mh en2 with
      | .ok hi en3 => match dSlice d lo hi with
        | some d' => .ok d' en3
        | none => .bad
      | .exc c x => .exc c x
      | .bad => .bad
    | .exc c x => .exc c x
    | .bad => .bad
  | .exc c x => .exc c x
  | .bad => .bad
theorem OwnL.take : ∀ {vs : List V} {ds : List D} (n : Nat), OwnL G Z H 0 vs ds [] → OwnL G Z H 0 (vs.take n) (ds.take n) [] := by
  intro vs
  induction vs with
  | nil => intro ds n h; cases h; simpa using OwnL.nil
  | cons v vs ih =>
    intro ds n h
    generalize hf : ([] : List Addr) = f at h
    cases h with
    | @cons _ _ _ _ _ fp fq h t =>
      obtain ⟨rfl, rfl⟩ := List.append_eq_nil_iff.mp hf.symm
      cases n with
      | zero => exact OwnL.nil
      | succ n => exact OwnL.cons (fp := []) (fps := []) h (ih n t)
theorem OwnL.drop : ∀ {vs : List V} {ds : List D} (n : Nat), OwnL G Z H 0 vs ds [] → OwnL G Z H 0 (vs.drop n) (ds.drop n) [] := by
  intro vs
  induction vs with
  | nil => intro ds n h; cases h; simpa using OwnL.nil
  | cons v vs ih =>
    intro ds n h
    generalize hf : ([] : List Addr) = f at h
    cases h with
    | @cons _ _ _ _ _ fp fq h t =>
      obtain ⟨rfl, rfl⟩ := List.append_eq_nil_iff.mp hf.symm
      cases n with
      | zero => exact OwnL.cons (fp := []) (fps := []) h t
      | succ n => exact ih n t
theorem OwnL.cut {vs : List V} {ds : List D} (lo hi : Option Int) (h : OwnL G Z H 0 vs ds []) : OwnL G Z H 0 (cutV vs lo hi) (cutL ds lo hi) [] := by
  unfold cutV cutL
  rw [h.len]
  exact (h.drop _).take _
theorem ownL_ints (ns : List Int) : OwnL G Z H 0 (ns.map V.int) (ns.map D.int) [] := by
  induction ns with
  | nil => exact .nil
  | cons n ns ih => exact OwnL.cons (fp := []) (fps := []) .int ih
theorem cutV_map (ns : List Int) (lo hi : Option Int) : cutV (ns.map V.int) lo hi = (cutL ns lo hi).map V.int := by
  unfold cutV cutL
  rw [List.length_map, ← List.map_drop, ← List.map_take]
theorem ei_slice {lo hi : Option Expr} {ml mh : En → ResP} {p2 : Pos} (hK : G.K = X.K) (ha : OI X G W lk Γ a (.v L) Γ1 ma) (hl : PI_ X G W (L ++ lk) Γ1 lo Γ2 ml) (hh : PI_ X G W (L ++ lk) Γ2 hi Γ3 mh) :
    EI X G W lk Γ (.Subscript a (.Slice lo hi none p2) pos) 1 [] Γ3 (mSl ma ml mh) :=
  PE.imp (pe_slice (sl_list.or sl_str) ha hl hh) fun σ H Q ⟨B, Z, en, fps, C, o⟩ => by
    refine ⟨B, Z, en, fps, C, ?_⟩
    unfold mSl at o
    cases ea : ma en with
    | bad => rw [ea] at o; exact o.elim
    | exc c x => rw [ea] at o; exact o
    | ok d1 en1 =>
      rw [ea] at o
      dsimp only at o
      intro v1 Z1 H1 fps1 C1 h1
      have hl : ∀ i ∈ lk, i ∈ L ++ lk := fun i h => List.mem_append_right _ h
      have hL : ∀ i ∈ L, i ∈ L ++ lk := fun i h => List.mem_append_left _ h
      refine ⟨rb H1 Z1 (L ++ lk) fps1 B.pins, Z1, en1, fps1, C1.rebase _, ?_⟩
      cases eb : ml en1 with
      | bad => rw [eb] at o; exact o.elim
      | exc c x => rw [eb] at o; exact fun Cc dd H' x => o _ _ _ (x.comp C1 hl)
      | ok lo en2 =>
        rw [eb] at o
        intro Z2 H2 fps2 C2
        refine ⟨rb H1 Z1 (L ++ lk) fps1 B.pins, Z2, en2, fps2, C2, ?_⟩
        dsimp only at o
        cases ec : mh en2 with
        | bad => rw [ec] at o; exact o.elim
        | exc c x => rw [ec] at o; exact fun Cc dd H' x => o _ _ _ (x.comp C1 hl)
        | ok hi en3 =>
          rw [ec] at o
          intro Z3 H3 fps3 C3
          have C4 := C1.comp hl C3
          have h3 := Vw.stay h1 C1 hl hL C3
          dsimp only at o
          cases ed : dSlice d1 lo hi with
          | none => rw [ed] at o; exact o.elim
          | some d' =>
            rw [ed] at o
            unfold dSlice at ed
            split at ed
            · cases ed
              obtain ⟨p, vs, rfl, e1, o1⟩ := Vw.lst h3
              exact .inl ⟨p, vs, rfl, .of e1, fun r hr => o _ _ _ _ _ (C4.grow hr) (fresh_lst C4 (o1.cut lo hi) hr)⟩
            · rename_i ns
              cases ed
              obtain ⟨_, _, _, o3⟩ := Md.any (md := .v L) (B := B) h3
              obtain ⟨p, rfl, s⟩ := own_scr o3
              refine .inl ⟨p, _, rfl, hK ▸ s.sq, fun r hr => ?_⟩
              rw [cutV_map]
              exact o _ _ _ _ _ (C4.grow hr) (fresh_lst C4 (ownL_ints _) hr)
            · rename_i z
              split at ed
              · rename_i hz
                cases ed
                obtain ⟨_, _, _, o3⟩ := Md.any (md := .v L) (B := B) h3
                exact .inr ⟨z, own_str o3, lim_ok hz, o _ _ _ _ [] C4 (.sc .str)⟩
              · cases ed
            · cases ed
def dRev : D → Option D
  | .lst xs => some (.lst xs.reverse)
  | _ => none
theorem ownL_rev : ∀ {vs : List V} {ds : List D}, OwnL G Z H 0 vs ds [] → OwnL G Z H 0 vs.reverse ds.reverse [] := by
  intro vs
  induction vs with
  | nil => intro ds h; cases h; exact .nil
  | cons v vs ih =>
    intro ds h
    generalize hf : ([] : List Addr) = f at h
    cases h with
    | @cons _ _ _ _ _ fp fq h t =>
      obtain ⟨rfl, rfl⟩ := List.append_eq_nil_iff.mp hf.symm
      rw [List.reverse_cons, List.reverse_cons]
      exact (ih t).append (OwnL.cons (fp := []) (fps := []) h .nil)
theorem ei_rev {k : Nat} {p1 p2 p3 : Pos} (ha : OI X G W lk Γ a (.v L) Γ' m) : EI X G W lk Γ (.Subscript a (.Slice none none (some (.UnaryOp .USub (.Constant (.int 1) k p1) p2)) p3) pos) 1 [] Γ' (m1 dRev m) :=
  PE.imp (pe_revL ha) fun σ H Q ⟨B, Z, en, fps, C, o⟩ => ⟨B, Z, en, fps, C, out1 (md := .v L) o fun d d' v Z2 H2 fps2 en2 ef C2 h2 o => by
    unfold dRev at ef
    split at ef
    · cases ef
      obtain ⟨p, vs, rfl, e1, o1⟩ := Vw.lst h2
      exact ⟨p, vs, rfl, .of e1, fun r hr => o _ _ _ _ _ (C2.grow hr) (fresh_lst C2 (ownL_rev o1) hr)⟩
    · cases ef⟩
end
end Im
/-! Statements. -/
namespace Im
open PySem PySem.Spec PyProof.Rows L2
inductive SRes where
  | nx (en : En) | rt (d : D) (en : En) | exc (c : Str) (x : D) | bad
abbrev SM := En → SRes
/-- what a return gives back besides: the parameters that the caller keeps, by their kinds -/
structure RO where
  io : List (Option Nat)
  κ : Nat
def RO.Γ (r : RO) : List Nat := r.io.map (·.getD 0)
def maskE (io : List (Option Nat)) (en : En) : En := en.mapIdx fun i d => if (io.getD i none).isSome then d else none
def PinIn (B : Bs) (r : RO) : Prop := ∀ p ∈ B.pins, (r.io.getD p.1 none).isSome = true
section
variable {G : GI} {B B' : Bs} {W : WX} {lk lk' L L' L1 L2 : List Nat} {Z Z' : Addr → Prop} {σ σ' : St} {H H' : Hp} {Γ Γ' Γ1 Γ2 Γ3 : List Nat} {en en' : En} {fps fps' : Nat → List Addr} {κ κ' : Nat} {κs : List Nat} {v : V} {d : D} {ro : RO}
variable {X : Cx} {pos : Pos} {m ma mb : EM} {e a b : Expr}
def OutS (G : GI) (B : Bs) (W : WX) (lk : List Nat) (ro : RO) (Γ' : List Nat) (D : Ends) : SRes → Prop
  | .nx en' => ∀ σ' Z' H' fps', Cfg G B lk Z' σ' H' Γ' en' fps' → D.nx σ' H'
  | .rt d en' => ∀ v σ' Z' H' fps' fp, Cfg G B lk Z' σ' H' ro.Γ en' fps' → Held G B [] Z' H' fps' ro.κ v d fp → D.rt v H'
  | .exc c x => ∀ C dd σ' H', XOk G B H' c x C dd → W (.ref C) (some dd) σ' H'
  | .bad => False
def tS (G : GI) (W : WX) (lk : List Nat) (ro : RO) (Γ Γ' : List Nat) (m : SM) : TS := fun D σ H =>
  ∃ B Z en fps, PinIn B ro ∧ Cfg G B lk Z σ H Γ en fps ∧ OutS G B W lk ro Γ' D (m en)
def SI (X : Cx) (G : GI) (W : WX) (lk : List Nat) (ro : RO) (Γ : List Nat) (st : Stmt) (Γ' : List Nat) (m : SM) : Prop := PS X st (tS G W lk ro Γ Γ' m)
def SsI (X : Cx) (G : GI) (W : WX) (lk : List Nat) (ro : RO) (Γ : List Nat) (sts : List Stmt) (Γ' : List Nat) (m : SM) : Prop := PSs X sts (tS G W lk ro Γ Γ' m)
/-- a wish about exceptions that does not look at the names -/
def WFree (W : WX) : Prop := ∀ C d σ σ' H, W C d σ H → W C d σ' H
theorem OutS.comp {D : Ends} {r : SRes} (C : Cfg G B lk Z σ H Γ en fps) (hl : ∀ i ∈ lk, i ∈ lk') (o : OutS G B W lk ro Γ' D r) : OutS G (rb H Z lk' fps B.pins) W lk' ro Γ' D r := by
  cases r with
  | bad => exact o
  | exc c x => exact fun _ _ _ _ y => o _ _ _ _ (y.comp C hl)
  | nx en' => exact fun σ' Z' H' fps' D => o σ' Z' H' fps' (C.comp hl D)
  | rt d en' => exact fun v σ' Z' H' fps' fp D h => o v σ' Z' H' fps' fp (C.comp hl D) (h.comp C hl)
def mSeq (m1 m2 : SM) : SM := fun en => match m1 en with
  | .nx en' => m2 en'
  | r => r
def mPass : SM := fun en => .nx en
theorem ss_nil : SsI X G W lk ro Γ [] Γ mPass := PSs.imp pss_nil fun D σ H ⟨B, Z, en, fps, P, C, o⟩ => o σ Z H fps C
theorem ss_cons {st : Stmt} {rest : List Stmt} {m1 m2 : SM} (h1 : SI X G W lk ro Γ st Γ1 m1) (h2 : SsI X G W lk ro Γ1 rest Γ2 m2) : SsI X G W lk ro Γ (st :: rest) Γ2 (mSeq m1 m2) := PSs.imp (pss_cons h1 h2) fun D σ H ⟨B, Z, en, fps, P, C, o⟩ => by
  refine ⟨B, Z, en, fps, P, C, ?_⟩
  unfold mSeq at o
  cases e : m1 en with
  | bad => rw [e] at o; exact o
  | exc c x => rw [e] at o; exact o
  | rt d en' => rw [e] at o; exact o
  | nx en' =>
    rw [e] at o
    exact fun σ' Z' H' fps' C' => ⟨B, Z', en', fps', P, C', o⟩
theorem ss_one {st : Stmt} {m1 : SM} (h1 : SI X G W lk ro Γ st Γ1 m1) : SsI X G W lk ro Γ [st] Γ1 m1 := pss_one h1
theorem si_pass : SI X G W lk ro Γ (.Pass pos) Γ mPass := PS.imp ps_pass fun D σ H ⟨B, Z, en, fps, P, C, o⟩ => o σ Z H fps C
/-! ### a name gets a value -/
theorem Cfg.setP {i : Nat} {fp : List Addr} (C : Cfg G B lk Z σ H Γ en fps) (h : Held G B [] Z H fps κ v d fp) (hi : i ∉ lk) (hΓ : i < Γ.length) (hp : ∀ p ∈ B.pins, (σ.set i (some v))[p.1]? = some (some p.2)) :
    Cfg G B lk Z (σ.set i (some v)) H (Γ.set i κ) (en.set i (some d)) (fun j => if j = i then (if i < en.length then fp else []) else fps j) where
  bok := C.bok
  len := by rw [List.length_set, List.length_set]; exact C.len
  rep := fun j d' e => by
    by_cases hj : j = i
    · subst hj
      by_cases hl : j < en.length
      · rw [List.getElem?_set_self hl] at e
        cases e
        refine ⟨v, by rw [List.getElem?_set_self (by rw [C.len]; exact hl)], ?_⟩
        rw [if_pos rfl, if_pos hl]
        have g : (Γ.set j κ).getD j 0 = κ := by
          rw [List.getD_eq_getElem?_getD, List.getElem?_set_self hΓ]; rfl
        rw [g]
        exact h.own.monoZ fun a z => Zl_nil.mp z
      · rw [List.getElem?_eq_none (by simpa using hl)] at e; cases e
    · rw [List.getElem?_set_ne (Ne.symm hj)] at e
      obtain ⟨v', h1, h2⟩ := C.rep j d' e
      refine ⟨v', by rw [List.getElem?_set_ne (Ne.symm hj)]; exact h1, ?_⟩
      rw [if_neg hj]
      have g : (Γ.set i κ).getD j 0 = Γ.getD j 0 := by
        rw [List.getD_eq_getElem?_getD, List.getD_eq_getElem?_getD, List.getElem?_set_ne (Ne.symm hj)]
      rw [g]
      exact h2
  emp := fun j e => by
    by_cases hj : j = i
    · subst hj
      rw [if_pos rfl]
      by_cases hl : j < en.length
      · exact absurd (List.getElem?_set_self hl) (e d)
      · rw [if_neg hl]
    · rw [if_neg hj]
      exact C.emp j fun d' q => e d' (by rw [List.getElem?_set_ne (Ne.symm hj)]; exact q)
  nd := fun j => by
    by_cases hj : j = i
    · rw [if_pos hj]
      split
      · exact h.nd
      · exact List.nodup_nil
    · rw [if_neg hj]; exact C.nd j
  dis := fun j l a h1 h2 => by
    by_cases hj : j = i
    · rw [if_pos hj] at h1
      by_cases hl : l = i
      · rw [hj, hl]
      · rw [if_neg hl] at h2
        split at h1
        · exact absurd h2 (h.ds a h1 l)
        · cases h1
    · rw [if_neg hj] at h1
      by_cases hl : l = i
      · rw [if_pos hl] at h2
        split at h2
        · exact absurd h1 (h.ds a h2 j)
        · cases h2
      · rw [if_neg hl] at h2
        exact C.dis j l a h1 h2
  nz := fun j a h1 => by
    by_cases hj : j = i
    · rw [if_pos hj] at h1
      split at h1
      · exact h.nz a h1
      · cases h1
    · rw [if_neg hj] at h1; exact C.nz j a h1
  zt := C.zt
  tab := C.tab
  keep := C.keep
  newf := fun j a h1 => by
    by_cases hj : j = i
    · rw [if_pos hj] at h1
      split at h1
      · exact (h.nw a h1).elim .inl fun z => .inr (.inr z)
      · cases h1
    · rw [if_neg hj] at h1; exact C.newf j a h1
  lkd := fun j l a h1 y => by
    by_cases hj : j = i
    · rw [if_pos hj] at h1
      split at h1
      · rcases C.lks l a y with z | z
        · exact absurd z (h.nz a h1)
        · exact absurd z (h.ds a h1 l)
      · cases h1
    · rw [if_neg hj] at h1; exact C.lkd j l a h1 y
  lks := fun j a y => by
    rcases C.lks j a y with z | z
    · exact .inl z
    · have hj : j ≠ i := fun q => hi (q ▸ C.bok.lki j a y)
      rw [if_neg hj]; exact .inr z
  zb := C.zb
  zn := C.zn
  pin := hp
theorem Cfg.set {i : Nat} {fp : List Addr} (C : Cfg G B lk Z σ H Γ en fps) (h : Held G B [] Z H fps κ v d fp) (hi : i ∉ lk) (hΓ : i < Γ.length) (hp : ∀ p ∈ B.pins, p.1 ≠ i) :
    Cfg G B lk Z (σ.set i (some v)) H (Γ.set i κ) (en.set i (some d)) (fun j => if j = i then (if i < en.length then fp else []) else fps j) :=
  C.setP h hi hΓ fun p m => by
    rw [List.getElem?_set_ne (Ne.symm (hp p m))]
    exact C.pin p m
/-- put back -/
theorem Cfg.put {i : Nat} {fp : List Addr} (C : Cfg G B lk Z σ H Γ en fps) (h : Held G B [] Z H fps κ v d fp) (hi : i ∉ lk) (hΓ : i < Γ.length) (hs : σ[i]? = some (some v)) :
    Cfg G B lk Z σ H (Γ.set i κ) (en.set i (some d)) (fun j => if j = i then (if i < en.length then fp else []) else fps j) := by
  have e : σ.set i (some v) = σ := by
    apply List.ext_getElem?
    intro j
    by_cases hj : i = j
    · subst hj
      have hl : i < σ.length := (List.getElem?_eq_some_iff.mp hs).1
      rw [List.getElem?_set_self hl, hs]
    · rw [List.getElem?_set_ne hj]
  have q := C.setP h hi hΓ fun p m => by rw [e]; exact C.pin p m
  rw [e] at q
  exact q
def mSet (i : Nat) (m : EM) : SM := fun en => match m en with
  | .ok d en' => .nx (en'.set i (some d))
  | .exc c x => .exc c x
  | .bad => .bad
theorem pin_ne {i : Nat} (P : PinIn B ro) (h : (ro.io.getD i none).isSome = false) : ∀ p ∈ B.pins, p.1 ≠ i := fun p m e => by
  have q := P p m
  rw [e, h] at q; cases q
theorem si_set {i : Nat} {x : Str} {pos' : Pos} (hN : X.N.Nodup) (hi : X.N[i]? = some x) (hx : Loc X.env.scope x) (he : EI X G W lk Γ e κ [] Γ1 m) (h1 : i ∉ lk := by decide) (h2 : i < Γ1.length := by decide) (h3 : (ro.io.getD i none).isSome = false := by rfl)
    (hs : swapsWith e (some (.Name x pos')) pos.line X.env = pure false := by rfl) (hf : X.fn x = true ∨ X.env.scope.names.lookup x = some .local := by first | exact .inl rfl | exact .inr rfl) (hW : WFree W) :
    SI X G W lk ro Γ (.Assign [.Name x pos'] e pos) (Γ1.set i κ) (mSet i m) := PS.imp (ps_set hN hi hx he hs hf) fun D σ H ⟨B, Z, en, fps, P, C, o⟩ => by
  refine ⟨B, Z, en, fps, C, ?_⟩
  unfold mSet at o
  cases e : m en with
  | bad => rw [e] at o; exact o
  | exc c x => rw [e] at o; exact fun Cc dd H' y => o Cc dd σ H' y
  | ok d en' =>
    rw [e] at o
    intro v Z' H' fps' fp C' h'
    exact o _ _ _ _ (C'.set h' h1 h2 (pin_ne P h3))
def mDrop (m : EM) : SM := fun en => match m en with
  | .ok _ en' => .nx en'
  | .exc c x => .exc c x
  | .bad => .bad
theorem si_expr (he : EI X G W lk Γ e κ L Γ1 m) (hs : swapsWith e none pos.line X.env = pure false := by rfl) : SI X G W lk ro Γ (.Expr e pos) Γ1 (mDrop m) := PS.imp (ps_expr he hs) fun D σ H ⟨B, Z, en, fps, P, C, o⟩ => by
  refine ⟨B, Z, en, fps, C, ?_⟩
  unfold mDrop at o
  cases e : m en with
  | bad => rw [e] at o; exact o
  | exc c x => rw [e] at o; exact fun Cc dd H' y => o Cc dd σ H' y
  | ok d en' =>
    rw [e] at o
    exact fun v Z' H' fps' fp C' h' => o _ _ _ _ C'
/-! ### return -/
theorem maskE_len (io : List (Option Nat)) (en : En) : (maskE io en).length = en.length := by unfold maskE; rw [List.length_mapIdx]
theorem maskE_get {io : List (Option Nat)} {en : En} {i : Nat} {d : D} (h : (maskE io en)[i]? = some (some d)) : en[i]? = some (some d) ∧ (io.getD i none).isSome = true := by
  unfold maskE at h
  rw [List.getElem?_mapIdx] at h
  cases e : en[i]? with
  | none => rw [e] at h; cases h
  | some x =>
    rw [e] at h
    simp only [Option.map_some, Option.some.injEq] at h
    split at h
    · rename_i q
      exact ⟨by rw [h], q⟩
    · cases h
def keepF (io : List (Option Nat)) (en : En) (fps : Nat → List Addr) : Nat → List Addr := fun i => if (io.getD i none).isSome then fps i else []
def Zk (Z : Addr → Prop) (lk : List Nat) (fps : Nat → List Addr) : Addr → Prop := fun a => Z a ∨ ∃ i ∈ lk, a ∈ fps i
theorem Cfg.mask {io : List (Option Nat)} (C : Cfg G B lk Z σ H Γ en fps) (hk : ∀ i k, io.getD i none = some k → Γ.getD i 0 = k) (hl : ∀ i ∈ lk, io.getD i none = none) : Cfg G B lk (Zk Z lk fps) σ H (io.map (·.getD 0)) (maskE io en) (keepF io en fps) where
  bok := C.bok
  len := by rw [maskE_len]; exact C.len
  rep := fun i d e => by
    obtain ⟨e1, e2⟩ := maskE_get e
    obtain ⟨v, h1, h2⟩ := C.rep i d e1
    refine ⟨v, h1, ?_⟩
    unfold keepF
    rw [if_pos e2]
    obtain ⟨k, e3⟩ := Option.isSome_iff_exists.mp e2
    have g : (io.map (·.getD 0)).getD i 0 = k := by
      rw [List.getD_eq_getElem?_getD, List.getElem?_map]
      rw [List.getD_eq_getElem?_getD] at e3
      cases q : io[i]? with
      | none => rw [q] at e3; cases e3
      | some y => rw [q] at e3; simp at e3; subst e3; rfl
    rw [g, ← hk i k e3]
    exact h2.monoZ fun a z => .inl z
  emp := fun i e => by
    unfold keepF
    split
    · rename_i q
      refine C.emp i fun d e1 => e d ?_
      unfold maskE
      rw [List.getElem?_mapIdx, e1]
      simp only [Option.map_some]
      rw [if_pos q]
    · rfl
  nd := fun i => by
    unfold keepF
    split
    · exact C.nd i
    · exact List.nodup_nil
  dis := fun i j a h h' => by
    unfold keepF at h h'
    split at h
    · split at h'
      · exact C.dis i j a h h'
      · cases h'
    · cases h
  nz := fun i a h z => by
    unfold keepF at h
    split at h
    · rename_i q
      rcases z with z | ⟨j, hj, z⟩
      · exact C.nz i a h z
      · have := C.dis i j a h z
        subst this
        rw [hl i hj] at q; cases q
    · cases h
  zt := fun a z => by
    rcases z with z | ⟨j, hj, z⟩
    · exact C.zt a z
    · obtain ⟨o, e, t⟩ := C.chg z
      exact ⟨o, e, t.nt⟩
  tab := C.tab
  keep := C.keep
  newf := fun i a h => by
    unfold keepF at h
    split at h
    · exact C.newf i a h
    · cases h
  lkd := fun i j a h y => by
    unfold keepF at h
    split at h
    · exact C.lkd i j a h y
    · cases h
  lks := fun i a y => by
    rcases C.lks i a y with z | z
    · exact .inl (.inl z)
    · exact .inl (.inr ⟨i, C.bok.lki i a y, z⟩)
  zb := fun a z => .inl (C.zb a z)
  zn := fun a z => by
    rcases z with z | ⟨i, hi, z⟩
    · exact C.zn a z
    · rcases C.newf i a z with y | y | y
      · exact .inr (.inl y)
      · exact .inr (.inr (.inl ⟨i, y⟩))
      · exact .inr (.inr (.inr y))
  pin := C.pin
theorem held_mask {io : List (Option Nat)} {fp : List Addr} (h : Held G B [] Z H fps κ v d fp) : Held G B [] (Zk Z lk fps) H (keepF io en fps) κ v d fp :=
  ⟨h.own.monoZ fun a z => .inl (.inl (Zl_nil.mp z)), h.nd, (fun a m z => z.elim (h.nz a m) fun ⟨i, _, q⟩ => h.ds a m i q), (fun a m i q => by
    unfold keepF at q
    split at q
    · exact h.ds a m i q
    · cases q), h.nw⟩
def roOk (ro : RO) (Γ : List Nat) : Bool := (List.range ro.io.length).all fun i => match ro.io.getD i none with | some k => Γ.getD i 0 == k | none => true
theorem roOk_of (h : roOk ro Γ = true) : ∀ i k, ro.io.getD i none = some k → Γ.getD i 0 = k := fun i k e => by
  unfold roOk at h
  rw [List.all_eq_true] at h
  have hi : i < ro.io.length := by
    rw [List.getD_eq_getElem?_getD] at e
    cases q : ro.io[i]? with
    | none => rw [q] at e; cases e
    | some y => exact (List.getElem?_eq_some_iff.mp q).1
  have q := h i (List.mem_range.mpr hi)
  rw [e] at q
  simpa using q
def mRet (io : List (Option Nat)) (m : EM) : SM := fun en => match m en with
  | .ok d en' => .rt d (maskE io en')
  | .exc c x => .exc c x
  | .bad => .bad
theorem si_ret (he : EI X G W lk Γ e ro.κ [] Γ1 m) (hr : roOk ro Γ1 = true := by decide) (hl : ∀ i ∈ lk, ro.io.getD i none = none := by decide) : SI X G W lk ro Γ (.Return (some e) pos) Γ' (mRet ro.io m) := PS.imp (ps_ret he) fun D σ H ⟨B, Z, en, fps, P, C, o⟩ => by
  refine ⟨B, Z, en, fps, C, ?_⟩
  unfold mRet at o
  cases e : m en with
  | bad => rw [e] at o; exact o
  | exc c x => rw [e] at o; exact fun Cc dd H' y => o Cc dd σ H' y
  | ok d en' =>
    rw [e] at o
    exact fun v Z' H' fps' fp C' h' => o _ _ _ _ _ _ (C'.mask (roOk_of hr) hl) (held_mask (en := en') h')
/-! ### if -/
def mIfS (mc : EM) (ma mb : SM) : SM := fun en => match mc en with
  | .ok (.bl true) en1 => ma en1
  | .ok (.bl false) en1 => mb en1
  | .ok _ _ => .bad
  | .exc c x => .exc c x
  | .bad => .bad
theorem si_if {c : Expr} {sa sb : List Stmt} {mc : EM} {ma mb : SM} (hc : TI X G W lk Γ c Γ1 mc) (ha : SsI X G W lk ro Γ1 sa Γ' ma) (hb : SsI X G W lk ro Γ1 sb Γ' mb) : SI X G W lk ro Γ (.If c sa sb pos) Γ' (mIfS mc ma mb) :=
  PS.imp (ps_if hc ha hb) fun D σ H ⟨B, Z, en, fps, P, C, o⟩ => by
    refine ⟨B, Z, en, fps, C, ?_⟩
    unfold mIfS at o
    cases e : mc en with
    | bad => rw [e] at o; exact o
    | exc c x => rw [e] at o; exact fun Cc dd H' y => o Cc dd σ H' y
    | ok d en' =>
      rw [e] at o
      cases d with
      | bl c =>
        intro Z' H' fps' C'
        cases c with
        | true =>
          rw [if_pos rfl]
          exact ⟨B, Z', en', fps', P, C', o⟩
        | false =>
          rw [if_neg Bool.false_ne_true]
          exact ⟨B, Z', en', fps', P, C', o⟩
      | _ => exact o.elim
/-! ### forgetting names, giving up -/
def killE (is : List Nat) (en : En) : En := is.foldl (fun en i => en.set i none) en
theorem Cfg.killS : ∀ {is : List Nat} {en : En} {fps : Nat → List Addr}, Cfg G B lk Z σ H Γ en fps → (∀ i ∈ is, i ∉ lk) → ∃ fps', Cfg G B lk Z σ H Γ (killE is en) fps' ∧ ∀ i a, a ∈ fps' i → a ∈ fps i
  | [], _, fps, C, _ => ⟨fps, C, fun _ _ h => h⟩
  | i :: is, en, fps, C, h => by
    have C1 := C.drop i (h i List.mem_cons_self)
    obtain ⟨f, C2, s⟩ := C1.killS (is := is) fun j m => h j (List.mem_cons_of_mem _ m)
    refine ⟨f, C2, fun j a m => ?_⟩
    have q := s j a m
    split at q
    · cases q
    · exact q
theorem Cfg.kill {is : List Nat} {en : En} {fps : Nat → List Addr} (C : Cfg G B lk Z σ H Γ en fps) (h : ∀ i ∈ is, i ∉ lk) : ∃ fps', Cfg G B lk Z σ H Γ (killE is en) fps' := by
  obtain ⟨f, C2, _⟩ := C.killS h
  exact ⟨f, C2⟩
theorem killE_none : ∀ {is : List Nat} {en : En} {i : Nat} {d : D}, i ∈ is → (killE is en)[i]? ≠ some (some d) := by
  have keep : ∀ (is : List Nat) (en : En) (i : Nat) (d : D), en[i]? ≠ some (some d) → (killE is en)[i]? ≠ some (some d) := by
    intro is
    induction is with
    | nil => intro en i d h; exact h
    | cons j is ih =>
      intro en i d h
      refine ih (en.set j none) i d fun q => ?_
      by_cases e : j = i
      · subst e
        by_cases hl : j < en.length
        · rw [List.getElem?_set_self hl] at q; cases q
        · rw [List.getElem?_eq_none (by simpa using hl)] at q; cases q
      · rw [List.getElem?_set_ne e] at q; exact h q
  intro is
  induction is with
  | nil => intro en i d h; cases h
  | cons j is ih =>
    intro en i d h
    rcases List.mem_cons.mp h with rfl | h
    · refine keep is _ _ d fun q => ?_
      by_cases hl : i < en.length
      · rw [List.getElem?_set_self hl] at q; cases q
      · rw [List.getElem?_eq_none (by simpa using hl)] at q; cases q
    · exact ih h
def mKill (is : List Nat) (m : SM) : SM := fun en => match m en with
  | .nx en' => .nx (killE is en')
  | r => r
theorem si_kill {st : Stmt} {m1 : SM} (is : List Nat) (h : SI X G W lk ro Γ st Γ1 m1) (hk : ∀ i ∈ is, i ∉ lk := by decide) : SI X G W lk ro Γ st Γ1 (mKill is m1) := PS.imp h fun D σ H ⟨B, Z, en, fps, P, C, o⟩ => by
  refine ⟨B, Z, en, fps, P, C, ?_⟩
  unfold mKill at o
  cases e : m1 en with
  | bad => rw [e] at o; exact o
  | exc c x => rw [e] at o; exact o
  | rt d en' => rw [e] at o; exact o
  | nx en' =>
    rw [e] at o
    intro σ' Z' H' fps' C'
    obtain ⟨f2, C2⟩ := C'.kill (is := is) hk
    exact o _ _ _ _ C2
/-! ### targets -/
/-- off these slots nothing is set -/
def Off (ts : List Nat) (σ σ' : St) : Prop := σ'.length = σ.length ∧ ∀ j, j ∉ ts → σ'[j]? = σ[j]?
theorem Off.refl {ts : List Nat} : Off ts σ σ := ⟨rfl, fun _ _ => rfl⟩
theorem Off.trans {ts us : List Nat} {σ'' : St} (a : Off ts σ σ') (b : Off us σ' σ'') : Off (ts ++ us) σ σ'' := ⟨b.1.trans a.1, fun j h => (b.2 j fun m => h (List.mem_append_right _ m)).trans (a.2 j fun m => h (List.mem_append_left _ m))⟩
def OutG (G : GI) (B : Bs) (lk : List Nat) (Γ' : List Nat) (P : St → Prop) (Q : St → Hp → Prop) : Option En → Prop
  | some en' => ∀ σ' Z' H' fps', Cfg G B lk Z' σ' H' Γ' en' fps' → P σ' → Q σ' H'
  | none => False
def tG (G : GI) (lk : List Nat) (ro : RO) (Γ : List Nat) (κ : Nat) (Γ' : List Nat) (ts : List Nat) (mg : D → En → Option En) : TG := fun v σ H Q =>
  ∃ B Z en fps d fp, PinIn B ro ∧ Cfg G B lk Z σ H Γ en fps ∧ Held G B [] Z H fps κ v d fp ∧ OutG G B lk Γ' (Off ts σ) Q (mg d en)
/-- a target that gets a value of the kind κ; it sets no slots but ts -/
def TgI (X : Cx) (G : GI) (lk : List Nat) (ro : RO) (Γ : List Nat) (tg : Expr) (κ : Nat) (Γ' : List Nat) (ts : List Nat) (mg : D → En → Option En) : Prop := PG X tg (tG G lk ro Γ κ Γ' ts mg)
theorem PG.imp {X : Cx} {e : Expr} {t t' : TG} (h : PG X e t) (i : ∀ v σ H Q, t' v σ H Q → t v σ H Q) : PG X e t' := ⟨fun pins s σ H v u Q I r q => h.run pins s σ H v u Q I r (i v σ H Q q)⟩
theorem PGs.imp {X : Cx} {es : List Expr} {t t' : TGs} (h : PGs X es t) (i : ∀ v σ H Q, t' v σ H Q → t v σ H Q) : PGs X es t' := ⟨fun pins s σ H v u Q I r q => h.run pins s σ H v u Q I r (i v σ H Q q)⟩
def gSet (i : Nat) : D → En → Option En := fun d en => some (en.set i (some d))
theorem tg_name {i : Nat} {x : Str} (hN : X.N.Nodup) (hi : X.N[i]? = some x) (hx : Loc X.env.scope x) (h1 : i ∉ lk := by decide) (h2 : i < Γ.length := by decide) (h3 : (ro.io.getD i none).isSome = false := by rfl)
    (hf : X.fn x = true ∨ X.env.scope.names.lookup x = some .local := by first | exact .inl rfl | exact .inr rfl) : TgI X G lk ro Γ (.Name x pos) κ (Γ.set i κ) [i] (gSet i) :=
  PG.imp (pg_name hN hi hx hf) fun v σ H Q ⟨B, Z, en, fps, d, fp, P, C, h, o⟩ => o _ _ _ _ (C.set h h1 h2 (pin_ne P h3)) ⟨List.length_set, fun j hj => List.getElem?_set_ne fun e => hj (by simp [e])⟩
/-! ### a base from which some more may be changed -/
def rbS (H : Hp) (Z : Addr → Prop) (lk : List Nat) (fps : Nat → List Addr) (pins : List (Nat × V)) (S : List Addr) : Bs := ⟨H, Z, fun a => (∃ i, i ∉ lk ∧ a ∈ fps i) ∨ a ∈ S, fun i a => i ∈ lk ∧ a ∈ fps i, pins⟩
theorem Cfg.rebaseS {S : List Addr} (C : Cfg G B lk Z σ H Γ en fps) (hc : ∀ a ∈ S, ∃ o, H a = some o ∧ Chg o) (hz : ∀ a ∈ S, ¬ Z a) (hd : ∀ a ∈ S, ∀ i, a ∉ fps i) : Cfg G (rbS H Z lk fps B.pins S) lk Z σ H Γ en fps where
  bok := ⟨fun a z => z.elim (fun ⟨i, _, h⟩ => C.chg h) (hc a), fun i a ⟨_, h⟩ => C.chg h, fun i a h => h.1, C.zt, fun a z y => y.elim (fun ⟨i, _, h⟩ => C.nz i a h z) fun h => hz a h z, fun i a z ⟨_, h⟩ => C.nz i a h z⟩
  len := C.len
  rep := C.rep
  emp := C.emp
  nd := C.nd
  dis := C.dis
  nz := C.nz
  zt := C.zt
  tab := C.tab
  keep := fun a o e _ => .inl e
  newf := fun i a h => by
    by_cases hi : i ∈ lk
    · exact .inr (.inl ⟨hi, h⟩)
    · exact .inl (.inl ⟨i, hi, h⟩)
  lkd := fun i j a h ⟨_, h'⟩ => C.dis i j a h h'
  lks := fun i a h => .inr h.2
  zb := fun a z => z
  zn := fun a z => .inl z
  pin := C.pin
theorem Cfg.compS {S : List Addr} (C : Cfg G B lk Z σ H Γ en fps) (hn : ∀ a ∈ S, B.F a ∨ B.H a = none) (D : Cfg G (rbS H Z lk fps B.pins S) lk Z' σ' H' Γ' en' fps') : Cfg G B lk Z' σ' H' Γ' en' fps' where
  bok := C.bok
  len := D.len
  rep := D.rep
  emp := D.emp
  nd := D.nd
  dis := D.dis
  nz := D.nz
  zt := D.zt
  tab := D.tab
  keep := fun a o e n => (C.keep a o e n).trans fun o1 e1 => D.keep a o1 e1 fun z => by
    rcases z with z | z
    · exact C.nF (fun _ h => h) e n z
    · rcases hn a z with y | y
      · exact n y
      · rw [e] at y; cases y
  newf := fun i a h => by
    rcases D.newf i a h with (⟨j, hj, z⟩ | z) | ⟨hi, z⟩ | z
    · rcases C.newf j a z with y | y | y
      · exact .inl y
      · exact absurd (C.bok.lki j a y) hj
      · exact .inr (.inr y)
    · exact (hn a z).elim .inl fun y => .inr (.inr y)
    · exact C.newf i a z
    · rcases C.none_of z with y | y
      · exact .inl y
      · exact .inr (.inr y)
  lkd := fun i j a h y => by
    rcases C.lks j a y with z | z
    · exact absurd (D.zb a z) (D.nz i a h)
    · exact D.lkd i j a h ⟨C.bok.lki j a y, z⟩
  lks := fun i a y => by
    rcases C.lks i a y with z | z
    · exact .inl (D.zb a z)
    · exact D.lks i a ⟨C.bok.lki i a y, z⟩
  zb := fun a z => D.zb a (C.zb a z)
  zn := fun a z => by
    have fr : ∀ i, a ∈ fps i → B.Z a ∨ B.F a ∨ (∃ i, B.Lk i a) ∨ B.H a = none := fun i h => by
      rcases C.newf i a h with y | y | y
      · exact .inr (.inl y)
      · exact .inr (.inr (.inl ⟨i, y⟩))
      · exact .inr (.inr (.inr y))
    rcases D.zn a z with y | (⟨i, _, h⟩ | h) | ⟨i, _, h⟩ | y
    · exact C.zn a y
    · exact fr i h
    · exact (hn a h).elim (fun y => .inr (.inl y)) fun y => .inr (.inr (.inr y))
    · exact fr i h
    · rcases C.none_of y with w | w
      · exact .inr (.inl w)
      · exact .inr (.inr (.inr w))
  pin := D.pin
theorem HeldL.stayS {S fp : List Addr} {vs : List V} {ds : List D} (h : HeldL G B [] Z H fps κ vs ds fp) (C : Cfg G B lk Z σ H Γ en fps) (hS : ∀ a ∈ fp, a ∉ S) (hz : ∀ a ∈ S, ¬ Z a) (D : Cfg G (rbS H Z lk fps B.pins S) lk Z' σ' H' Γ' en' fps') : HeldL G B [] Z' H' fps' κ vs ds fp := by
  have st : ∀ a o, NT o → H a = some o → (∀ i, a ∉ fps i) → a ∉ S → H' a = some o := fun a o t e n1 n2 => (D.keep a o e fun z => z.elim (fun ⟨i, _, h⟩ => n1 i h) n2).eq t
  refine ⟨ownL_keep (fun a o e n => D.stayI a o e n) (fun a z => ?_) h.own fun a m o e => st a o (by
    obtain ⟨o', e', t⟩ := h.own.chg a m
    have e : H a = some o := e
    rw [e] at e'; cases e'; exact t.nt) e (h.ds a m) (hS a m), h.nd, fun a m z => ?_, fun a m i q => ?_, h.nw⟩
  · have z := Zl_nil.mp z
    exact ⟨.inl (D.zb a z), fun o e => st a o (by
      obtain ⟨o', e', t⟩ := C.zt a z
      have e : H a = some o := e
      rw [e] at e'; cases e'; exact t) e (fun i m => C.nz i a m z) fun m => hz a m z⟩
  · rcases D.zn a z with y | (⟨i, _, y⟩ | y) | ⟨i, _, y⟩ | y
    · exact h.nz a m y
    · exact h.ds a m i y
    · exact hS a m y
    · exact h.ds a m i y
    · obtain ⟨o, e, _⟩ := h.own.chg a m
      have y : H a = none := y
      rw [e] at y; cases y
  · rcases D.newf i a q with (⟨j, _, y⟩ | y) | ⟨_, y⟩ | y
    · exact h.ds a m j y
    · exact hS a m y
    · exact h.ds a m i y
    · obtain ⟨o, e, _⟩ := h.own.chg a m
      have y : H a = none := y
      rw [e] at y; cases y
/-- the items of a tuple, one after another -/
def tGs (G : GI) (lk : List Nat) (ro : RO) (Γ : List Nat) (κ : Nat) (Γ' ts : List Nat) (mg : List D → En → Option En) : TGs := fun vs σ H Q =>
  ∃ B Z en fps ds fp, PinIn B ro ∧ Cfg G B lk Z σ H Γ en fps ∧ HeldL G B [] Z H fps κ vs ds fp ∧ OutG G B lk Γ' (Off ts σ) Q (mg ds en)
def TgsI (X : Cx) (G : GI) (lk : List Nat) (ro : RO) (Γ : List Nat) (tgs : List Expr) (κ : Nat) (Γ' ts : List Nat) (mg : List D → En → Option En) : Prop := PGs X tgs (tGs G lk ro Γ κ Γ' ts mg)
def gNil : List D → En → Option En := fun ds en => match ds with
  | [] => some en
  | _ => none
def gCons (g : D → En → Option En) (gs : List D → En → Option En) : List D → En → Option En := fun ds en => match ds with
  | d :: ds => match g d en with
    | some en' => gs ds en'
    | none => none
  | [] => none
theorem tgs_nil : TgsI X G lk ro Γ [] κ Γ [] gNil := PGs.imp pgs_nil fun vs σ H Q ⟨B, Z, en, fps, ds, fp, P, C, h, o⟩ => by
  cases ds with
  | nil =>
    have q := h.own.len
    cases vs with
    | nil => exact ⟨rfl, o _ _ _ _ C .refl⟩
    | cons v vs => simp at q
  | cons d ds => exact o.elim
theorem tgs_cons {tg : Expr} {tgs : List Expr} {ts us : List Nat} {g : D → En → Option En} {gs : List D → En → Option En} (h1 : TgI X G lk ro Γ tg κ Γ1 ts g) (h2 : TgsI X G lk ro Γ1 tgs κ Γ2 us gs)
    (hs : (assignEach (tg :: tgs) X.env).map (·.2) = assign tg X.env :: (assignEach tgs X.env).map (·.2) := by rfl) : TgsI X G lk ro Γ (tg :: tgs) κ Γ2 (ts ++ us) (gCons g gs) := PGs.imp (pgs_cons h1 h2 hs) fun vs σ H Q ⟨B, Z, en, fps, ds, fp, P, C, h, o⟩ => by
  cases ds with
  | nil => exact o.elim
  | cons d ds =>
    obtain ⟨ho, hn, hz, hd, hw⟩ := h
    generalize hf : fp = f at ho
    cases ho with
    | @cons _ v _ vs _ f1 f2 o1 o2 =>
      subst hf
      have n := List.nodup_append.mp hn
      have z1 : ∀ a ∈ f1, ¬ Z a := fun a m => hz a (List.mem_append_left _ m)
      have d1 : ∀ a ∈ f1, ∀ i, a ∉ fps i := fun a m => hd a (List.mem_append_left _ m)
      have hL : HeldL G B [] Z H fps κ vs ds f2 := ⟨o2, n.2.1, fun a m => hz a (List.mem_append_right _ m), fun a m => hd a (List.mem_append_right _ m), fun a m => hw a (List.mem_append_right _ m)⟩
      refine ⟨v, vs, rfl, rbS H Z lk fps B.pins f1, Z, en, fps, d, f1, P, C.rebaseS (fun a m => o1.chg a m) z1 d1, ⟨o1, n.1, z1, d1, fun a m => .inl (.inr m)⟩, ?_⟩
      unfold gCons at o
      dsimp only at o
      cases e : g d en with
      | none => rw [e] at o; exact o.elim
      | some en1 =>
        rw [e] at o
        intro σ1 Z1 H1 fps1 C1 f1
        have C2 := C.compS (fun a m => hw a (List.mem_append_left _ m)) C1
        refine ⟨B, Z1, en1, fps1, ds, f2, P, C2, hL.stayS C (fun a m m' => n.2.2 a m' a m rfl) z1 C1, ?_⟩
        dsimp only at o
        cases e2 : gs ds en1 with
        | none => rw [e2] at o; exact o.elim
        | some en2 =>
          rw [e2] at o
          exact fun σ2 Z2 H2 fps2 C3 f2 => o σ2 Z2 H2 fps2 C3 (f1.trans f2)
def mgTup (n : Nat) (gs : List D → En → Option En) : D → En → Option En := fun d en => match d with
  | .tup ds => if ds.length = n then gs ds en else none
  | _ => none
theorem tg_tup {es : List Expr} {k n : Nat} {ts : List Nat} {gs : List D → En → Option En} (hc : X.calm = true) (h : TgsI X G lk ro Γ es κ Γ' ts gs)
    (hn : (assignEach es X.env).length = n := by rfl) (hst : (assignEach es X.env).findIdx? (·.1) = none := by rfl) : TgI X G lk ro Γ (.Tuple es k pos) κ Γ' ts (mgTup n gs) :=
  PG.imp (pg_tup hc h hn hst) fun v σ H Q ⟨B, Z, en, fps, d, fp, P, C, h, o⟩ => by
    unfold mgTup at o
    split at o
    · rename_i ds
      split at o
      · rename_i hl
        obtain ⟨ho, hn, hz, hd, hw⟩ := h
        cases ho with
        | tup e oL =>
          exact ⟨_, _, rfl, .inl (.of e), oL.len.trans hl, B, Z, en, fps, ds, fp, P, C, ⟨oL, hn, hz, hd, hw⟩, o⟩
      · exact o.elim
    · exact o.elim
/-- target = value -/
def mAsg (m : EM) (g : D → En → Option En) : SM := fun en => match m en with
  | .ok d en' => match g d en' with
    | some en2 => .nx en2
    | none => .bad
  | .exc c x => .exc c x
  | .bad => .bad
theorem si_asg {tg : Expr} {ts : List Nat} {g : D → En → Option En} (hW : WFree W) (he : EI X G W lk Γ e κ [] Γ1 m) (hg : TgI X G lk ro Γ1 tg κ Γ2 ts g) (hs : swapsWithSole [tg] e pos.line X.env = pure false := by rfl) (hw : swappedStores [tg] e X.env = pure none := by rfl)
    (h1 : (assignEach [tg] X.env).map (·.2) = [assign tg X.env] := by rfl) : SI X G W lk ro Γ (.Assign [tg] e pos) Γ2 (mAsg m g) := PS.imp (ps_asg he hg hs hw h1) fun D σ H ⟨B, Z, en, fps, P, C, o⟩ => by
  refine ⟨B, Z, en, fps, C, ?_⟩
  unfold mAsg at o
  cases e : m en with
  | bad => rw [e] at o; exact o
  | exc c x => rw [e] at o; exact fun Cc dd H' y => o Cc dd σ H' y
  | ok d en' =>
    rw [e] at o
    dsimp only at o
    intro v Z' H' fps' fp C' h'
    refine ⟨B, Z', en', fps', d, fp, P, C', h', ?_⟩
    cases e2 : g d en' with
    | none => rw [e2] at o; exact o.elim
    | some en2 =>
      rw [e2] at o
      exact fun σ2 Z2 H2 fps2 C2 _ => o σ2 Z2 H2 fps2 C2
/-! ### kinds made smaller -/
theorem Cfg.low1 (C : Cfg G B lk Z σ H Γ en fps) (i k : Nat) (hk : k ≤ Γ.getD i 0) : ∃ Z' fps', Cfg G B lk Z' σ H (Γ.set i k) en fps' := by
  by_cases hd : ∃ d, en[i]? = some (some d)
  · obtain ⟨d, e⟩ := hd
    obtain ⟨v, h1, h2⟩ := C.rep i d e
    obtain ⟨fp', sub, o⟩ := h2.lower hk (C.nd i)
    have gs : ∀ (hl : i < Γ.length), (Γ.set i k).getD i 0 = k := fun hl => by rw [List.getD_eq_getElem?_getD, List.getElem?_set_self hl]; rfl
    have gk : (Γ.set i k).getD i 0 = k := by
      by_cases hl : i < Γ.length
      · exact gs hl
      · have z : Γ.getD i 0 = 0 := by rw [List.getD_eq_getElem?_getD, List.getElem?_eq_none (by omega)]; rfl
        rw [List.getD_eq_getElem?_getD, List.getElem?_eq_none (by simp; omega)]
        show 0 = k
        omega
    refine ⟨fun a => Z a ∨ (a ∈ fps i ∧ a ∉ fp'), fun j => if j = i then fp' else fps j, ?_⟩
    exact {
      bok := C.bok
      len := C.len
      rep := fun j d' e' => by
        obtain ⟨v', h1', h2'⟩ := C.rep j d' e'
        by_cases hj : j = i
        · subst hj
          rw [e] at e'; cases e'
          rw [h1] at h1'; cases h1'
          refine ⟨v, h1, ?_⟩
          rw [if_pos rfl, gk]
          exact o
        · refine ⟨v', h1', ?_⟩
          rw [if_neg hj]
          have g : (Γ.set i k).getD j 0 = Γ.getD j 0 := by
            rw [List.getD_eq_getElem?_getD, List.getD_eq_getElem?_getD, List.getElem?_set_ne (Ne.symm hj)]
          rw [g]
          exact h2'.monoZ fun a z => .inl z
      emp := fun j e' => by
        by_cases hj : j = i
        · subst hj; exact absurd e (e' d)
        · rw [if_neg hj]; exact C.emp j e'
      nd := fun j => by
        by_cases hj : j = i
        · rw [if_pos hj]; exact (C.nd i).sublist sub
        · rw [if_neg hj]; exact C.nd j
      dis := fun j l a h h' => by
        have hh : ∀ j, a ∈ (if j = i then fp' else fps j) → a ∈ fps j := fun j h => by
          split at h
          · rename_i q; rw [q]; exact sub.subset h
          · exact h
        exact C.dis j l a (hh j h) (hh l h')
      nz := fun j a h z => by
        split at h
        · rename_i hj
          rcases z with z | z
          · exact C.nz i a (sub.subset h) z
          · exact z.2 h
        · rename_i hj
          rcases z with z | z
          · exact C.nz j a h z
          · exact hj (C.dis j i a h z.1)
      zt := fun a z => by
        rcases z with z | z
        · exact C.zt a z
        · obtain ⟨o, e, t⟩ := C.chg z.1
          exact ⟨o, e, t.nt⟩
      tab := C.tab
      keep := C.keep
      newf := fun j a h => by
        split at h
        · rename_i hj; rw [hj]; exact C.newf i a (sub.subset h)
        · exact C.newf j a h
      lkd := fun j l a h y => by
        split at h
        · rename_i hj; rw [hj]; exact C.lkd i l a (sub.subset h) y
        · exact C.lkd j l a h y
      lks := fun j a h => by
        rcases C.lks j a h with z | z
        · exact .inl (.inl z)
        · by_cases hj : j = i
          · rw [if_pos hj]
            by_cases hm : a ∈ fp'
            · exact .inr hm
            · exact .inl (.inr ⟨hj ▸ z, hm⟩)
          · rw [if_neg hj]; exact .inr z
      zb := fun a z => .inl (C.zb a z)
      zn := fun a z => by
        rcases z with z | z
        · exact C.zn a z
        · rcases C.newf i a z.1 with y | y | y
          · exact .inr (.inl y)
          · exact .inr (.inr (.inl ⟨i, y⟩))
          · exact .inr (.inr (.inr y))
      pin := C.pin }
  · refine ⟨Z, fps, ?_⟩
    have hr : ∀ j d', en[j]? = some (some d') → ∃ v, σ[j]? = some (some v) ∧ Own G Z H ((Γ.set i k).getD j 0) v d' (fps j) := fun j d' e' => by
      obtain ⟨v', h1', h2'⟩ := C.rep j d' e'
      have hj : j ≠ i := fun q => hd ⟨d', q ▸ e'⟩
      refine ⟨v', h1', ?_⟩
      have g : (Γ.set i k).getD j 0 = Γ.getD j 0 := by
        rw [List.getD_eq_getElem?_getD, List.getD_eq_getElem?_getD, List.getElem?_set_ne (Ne.symm hj)]
      rw [g]
      exact h2'
    exact { C with rep := hr }
def lowsOk : List (Nat × Nat) → List Nat → Bool
  | [], _ => true
  | (i, k) :: r, Γ => decide (k ≤ Γ.getD i 0) && lowsOk r (Γ.set i k)
def lowsΓ : List (Nat × Nat) → List Nat → List Nat
  | [], Γ => Γ
  | (i, k) :: r, Γ => lowsΓ r (Γ.set i k)
theorem Cfg.lows : ∀ (r : List (Nat × Nat)) {Γ : List Nat} {Z : Addr → Prop} {fps : Nat → List Addr}, Cfg G B lk Z σ H Γ en fps → lowsOk r Γ = true → ∃ Z' fps', Cfg G B lk Z' σ H (lowsΓ r Γ) en fps'
  | [], _, _, _, C, _ => ⟨_, _, C⟩
  | (i, k) :: r, Γ, _, _, C, h => by
    unfold lowsOk at h
    rw [Bool.and_eq_true] at h
    obtain ⟨_, _, C'⟩ := C.low1 i k (of_decide_eq_true h.1)
    exact C'.lows r h.2
theorem si_low {st : Stmt} {m1 : SM} (r : List (Nat × Nat)) (h : SI X G W lk ro Γ st Γ1 m1) (hk : lowsOk r Γ1 = true := by decide) (h2 : lowsΓ r Γ1 = Γ2 := by decide) : SI X G W lk ro Γ st Γ2 m1 := PS.imp h fun D σ H ⟨B, Z, en, fps, P, C, o⟩ => by
  refine ⟨B, Z, en, fps, P, C, ?_⟩
  cases e : m1 en with
  | bad => rw [e] at o; exact o
  | exc c x => rw [e] at o; exact o
  | rt d en' => rw [e] at o; exact o
  | nx en' =>
    rw [e] at o
    intro σ' Z' H' fps' C'
    obtain ⟨Z2, f2, C2⟩ := C'.lows r hk
    rw [h2] at C2
    exact o _ _ _ _ C2
theorem ss_low {st : List Stmt} {m1 : SM} (r : List (Nat × Nat)) (h : SsI X G W lk ro Γ st Γ1 m1) (hk : lowsOk r Γ1 = true := by decide) (h2 : lowsΓ r Γ1 = Γ2 := by decide) : SsI X G W lk ro Γ st Γ2 m1 := PSs.imp h fun D σ H ⟨B, Z, en, fps, P, C, o⟩ => by
  refine ⟨B, Z, en, fps, P, C, ?_⟩
  cases e : m1 en with
  | bad => rw [e] at o; exact o
  | exc c x => rw [e] at o; exact o
  | rt d en' => rw [e] at o; exact o
  | nx en' =>
    rw [e] at o
    intro σ' Z' H' fps' C'
    obtain ⟨Z2, f2, C2⟩ := C'.lows r hk
    rw [h2] at C2
    exact o _ _ _ _ C2
/-- ahead of a statement -/
theorem si_pre {st : Stmt} {m1 : SM} (r : List (Nat × Nat)) (h : SI X G W lk ro Γ1 st Γ2 m1) (hk : lowsOk r Γ = true := by decide) (h2 : lowsΓ r Γ = Γ1 := by decide) : SI X G W lk ro Γ st Γ2 m1 := PS.imp h fun D σ H ⟨B, Z, en, fps, P, C, o⟩ => by
  obtain ⟨Z2, f2, C2⟩ := C.lows r hk
  rw [h2] at C2
  exact ⟨B, Z2, en, f2, P, C2, o⟩
end
end Im
/-! What a loop walks; for; while. -/
namespace Im
open PySem PySem.Spec PyProof.Rows L2
abbrev TIr := St → Hp → (It → Hp → Prop) → Prop
/-- what an iterator yields -/
def Fresh (G : GI) (Z : Addr → Prop) (H : Hp) (x : V) (d : D) (H' : Hp) : Prop :=
  (H' = H ∧ Own G Z H 0 x d []) ∨ ∃ T vs dv, x = .ref T ∧ H T = none ∧ H' = upd H T (.tup vs) ∧ d = .tup dv ∧ OwnL G Z H 0 vs dv []
/-- while A holds, J walks ds -/
structure Live (G : GI) (J : It) (ds : List D) (A : (Addr → Prop) → Hp → Prop) : Prop where
  go : ∀ Z H i, A Z H → i < ds.length → J.go i H
  stop : ∀ Z H i, A Z H → ds.length ≤ i → J.stop i H
  yld : ∀ Z H i d x H', A Z H → ds[i]? = some d → J.yld i H x H' → Fresh G Z H x d H'
section
variable {G : GI} {B B' : Bs} {W : WX} {lk lk' L L' La Lb : List Nat} {Z Z' : Addr → Prop} {σ σ' : St} {H H' : Hp} {Γ Γ' Γ1 Γ2 Γ3 Γb : List Nat} {en en' : En} {fps fps' : Nat → List Addr} {κ κ' : Nat} {κs : List Nat} {v : V} {d : D} {ro : RO}
variable {X : Cx} {pos : Pos} {m ma mb : EM} {e a b : Expr}
theorem Fresh.cfg {x : V} (f : Fresh G Z H x d H') (C : Cfg G B lk Z σ H Γ en fps) : Cfg G B lk Z σ H' Γ en fps ∧ Held G B [] Z H' fps 0 x d [] := by
  rcases f with ⟨rfl, o⟩ | ⟨T, vs, dv, rfl, hT, rfl, rfl, o⟩
  · exact ⟨C, held_frz (o.monoZ fun a z => Zl_nil.mpr z)⟩
  · exact ⟨C.grow hT, fresh_tup C o hT⟩
def OutI (G : GI) (B : Bs) (W : WX) (lk L Γ' : List Nat) (σ : St) (R : It → Hp → Prop) : ResL → Prop
  | .ok ds en' => ∀ J A Z' H' fps', Cfg G B lk Z' σ H' Γ' en' fps' → Live G J ds A → (∀ pins Z2 σ2 H2 Γ2 en2 fps2, Cfg G (rb H' Z' (L ++ lk) fps' pins) (L ++ lk) Z2 σ2 H2 Γ2 en2 fps2 → A Z2 H2) → R J H'
  | .exc c x => ∀ C dd H', XOk G B H' c x C dd → W (.ref C) (some dd) σ H'
  | .bad => False
def tI (G : GI) (W : WX) (lk Γ L Γ' : List Nat) (m : AM) : TIr := fun σ H R =>
  ∃ B Z en fps, Cfg G B lk Z σ H Γ en fps ∧ OutI G B W lk L Γ' σ R (m en)
def II (X : Cx) (G : GI) (W : WX) (lk Γ : List Nat) (tg e : Expr) (L Γ' : List Nat) (m : AM) : Prop := PI X tg e (tI G W lk Γ L Γ' m)
theorem PI.imp {X : Cx} {tg e : Expr} {t t' : TIr} (h : PI X tg e t) (i : ∀ σ H R, t' σ H R → t σ H R) : PI X tg e t' := ⟨fun pins s σ H R I q => h.run pins s σ H R I (i σ H R q)⟩
/-! ### a value walked -/
def iAny (K : PySem.W.Frag) (tl : TE) : TIr := fun σ H R => tl σ H fun x H1 => (∃ a, x = .ref a ∧ (∃ xs, SqL K H1 a xs) ∧ R (Itl K a) H1) ∨ (∃ a, x = .ref a ∧ (∃ xs, SqT K H1 a xs) ∧ R (Itt K a) H1) ∨ ∃ z, x = .str z ∧ R (Its z) H1
theorem pi_any {tg l : Expr} {tl : TE} (hl : PE X l tl) : PI X tg l (iAny X.K tl) := by
  refine ⟨fun pins s σ H R I h => ?_⟩
  refine thn (hl.run pins s σ H _ I h) fun v s1 ⟨x, H1, I1, r1, q1⟩ => ?_
  rcases q1 with ⟨a, e, ⟨xs, hq⟩, q⟩ | ⟨a, e, ⟨xs, hq⟩, q⟩ | ⟨z, e, q⟩
  · subst e
    cases r1
    obtain ⟨its, rv, p, hz⟩ := I1.list hq
    refine wpAny_pyIter_list p.isList ?_
    refine ⟨s1.heap.objs.size, [s1.heap.objs.size], _, _, H1, rfl, I1.kept (t' := s1.toks) fun b o e => Heap.get?_push_of_some _ e, turn_list a _, ⟨_, Heap.get?_push_size _ rfl, rfl, rfl⟩, fun b hb => ?_, q⟩
    have e : b = s1.heap.objs.size := by simpa using hb
    subst e
    exact I1.fpOk (Nat.le_refl _) (I1.hok.fresh (Nat.le_refl _))
  · subst e
    cases r1
    obtain ⟨its, rv, p, hz⟩ := I1.tuple hq
    refine wpAny_pyIter_tuple (show s1.heap.IsTuple a its.toArray from p) ?_
    refine ⟨s1.heap.objs.size, [s1.heap.objs.size], _, _, H1, rfl, I1.kept (t' := s1.toks) fun b o e => Heap.get?_push_of_some _ e, turn_tuple a _, ⟨_, Heap.get?_push_size _ rfl, rfl, rfl⟩, fun b hb => ?_, q⟩
    have e : b = s1.heap.objs.size := by simpa using hb
    subst e
    exact I1.fpOk (Nat.le_refl _) (I1.hok.fresh (Nat.le_refl _))
  · subst e
    obtain ⟨t, rfl⟩ := r1
    cases ha : z.cps.all (· < 128)
    · exact wpAny_pyIter_wide ha (pi_one (tk := s1.toks) I1 _ (turn_str _ z t "str_iterator" (.inr rfl)) ⟨_, Heap.get?_push_size _ rfl, rfl, rfl⟩ q)
    · exact wpAny_pyIter_ascii ha (pi_one (tk := s1.toks) I1 _ (turn_str _ z t "str_ascii_iterator" (.inl rfl)) ⟨_, Heap.get?_push_size _ rfl, rfl, rfl⟩ q)
def chars (z : Str) : List D := z.cps.toList.map fun c => .str ⟨#[c]⟩
def dItems : D → Option (List D)
  | .lst xs => some xs
  | .tup xs => some xs
  | .scr ns => some (ns.map .int)
  | .str z => some (chars z)
  | _ => none
theorem OwnL.get0 {vs : List V} {ds : List D} {i : Nat} {d : D} (h : OwnL G Z H 0 vs ds []) (e : ds[i]? = some d) : ∃ v, vs[i]? = some v ∧ Own G Z H 0 v d [] := by
  obtain ⟨v, fp, a, b, c⟩ := h.get e
  obtain rfl : fp = [] := List.sublist_nil.mp c
  exact ⟨v, a, b⟩
theorem OwnL.ex0 {vs : List V} {ds : List D} {i : Nat} (h : OwnL G Z H 0 vs ds []) (e : i < ds.length) : ∃ x, vs[i]? = some x := by
  have hl := h.len
  exact ⟨vs[i]'(by omega), List.getElem?_eq_getElem (by omega)⟩
theorem live_lst {a : Addr} {vs : List V} {ds : List D} (K : PySem.W.Frag) : Live G (Itl K a) ds fun Z H => H a = some (.lst vs) ∧ OwnL G Z H 0 vs ds [] where
  go := fun Z H i ⟨e, o⟩ hi => by
    obtain ⟨x, hx⟩ := o.ex0 hi
    exact ⟨vs, x, .inl (.of e), hx⟩
  stop := fun Z H i ⟨e, o⟩ hi => ⟨vs, .inl (.of e), by rw [o.len]; exact hi⟩
  yld := fun Z H i d x H' ⟨e, o⟩ hd ⟨e1, hx⟩ => by
    obtain ⟨v, h1, h2⟩ := o.get0 hd
    have q := hx vs (.inl (.of e))
    rw [h1] at q; cases q
    exact .inl ⟨e1, h2⟩
theorem live_tup {a : Addr} {vs : List V} {ds : List D} (K : PySem.W.Frag) : Live G (Itt K a) ds fun Z H => H a = some (.tup vs) ∧ OwnL G Z H 0 vs ds [] where
  go := fun Z H i ⟨e, o⟩ hi => by
    obtain ⟨x, hx⟩ := o.ex0 hi
    exact ⟨vs, x, .inl (.of e), hx⟩
  stop := fun Z H i ⟨e, o⟩ hi => ⟨vs, .inl (.of e), by rw [o.len]; exact hi⟩
  yld := fun Z H i d x H' ⟨e, o⟩ hd ⟨e1, hx⟩ => by
    obtain ⟨v, h1, h2⟩ := o.get0 hd
    have q := hx vs (.inl (.of e))
    rw [h1] at q; cases q
    exact .inl ⟨e1, h2⟩
theorem live_scr {K : PySem.W.Frag} {a : Addr} {ns : List Int} (hK : G.K = K) : Live G (Itl K a) (ns.map .int) fun Z H => ScrAt G.K H a ns where
  go := fun Z H i s hi => by
    have s := hK ▸ s.sq
    rw [List.length_map] at hi
    exact ⟨_, .int ns[i], s, by rw [List.getElem?_map, List.getElem?_eq_getElem hi]; rfl⟩
  stop := fun Z H i s hi => ⟨_, hK ▸ s.sq, by simpa using hi⟩
  yld := fun Z H i d x H' s hd ⟨e1, hx⟩ => by
    have q := hx _ (hK ▸ s.sq)
    rw [List.getElem?_map] at hd q
    cases e : ns[i]? with
    | none => rw [e] at hd; cases hd
    | some n =>
      rw [e] at hd q
      cases hd; cases q
      exact .inl ⟨e1, .int⟩
theorem live_str {z : Str} : Live G (Its z) (chars z) fun _ _ => True where
  go := fun Z H i _ hi => by
    show i < z.cps.size
    unfold chars at hi
    simpa using hi
  stop := fun Z H i _ hi => by
    show z.cps.size ≤ i
    unfold chars at hi
    simpa using hi
  yld := fun Z H i d x H' _ hd ⟨e1, c, hc, e2⟩ => by
    unfold chars at hd
    rw [List.getElem?_map, Array.getElem?_toList, hc] at hd
    cases hd
    exact .inl ⟨e1, e2 ▸ .str⟩
/-- a base with the names' pins given -/
theorem Cfg.rebaseP (C : Cfg G B lk Z σ H Γ en fps) (lk' : List Nat) (pins : List (Nat × V)) (hp : ∀ p ∈ pins, σ[p.1]? = some (some p.2)) : Cfg G (rb H Z lk' fps pins) lk' Z σ H Γ en fps where
  bok := ⟨fun a ⟨i, _, h⟩ => C.chg h, fun i a ⟨_, h⟩ => C.chg h, fun i a h => h.1, C.zt, fun a z ⟨i, _, h⟩ => C.nz i a h z, fun i a z ⟨_, h⟩ => C.nz i a h z⟩
  len := C.len
  rep := C.rep
  emp := C.emp
  nd := C.nd
  dis := C.dis
  nz := C.nz
  zt := C.zt
  tab := C.tab
  keep := fun a o e _ => .inl e
  newf := fun i a h => by
    by_cases hi : i ∈ lk'
    · exact .inr (.inl ⟨hi, h⟩)
    · exact .inl ⟨i, hi, h⟩
  lkd := fun i j a h ⟨_, h'⟩ => C.dis i j a h h'
  lks := fun i a h => .inr h.2
  zb := fun a z => z
  zn := fun a z => .inl z
  pin := hp
theorem cfg_pins {B : Bs} {pins : List (Nat × V)} (C : Cfg G B lk Z σ H Γ en fps) (hp : ∀ p ∈ pins, σ[p.1]? = some (some p.2)) : Cfg G ⟨B.H, B.Z, B.F, B.Lk, pins⟩ lk Z σ H Γ en fps :=
  ⟨⟨C.bok.fch, C.bok.lch, C.bok.lki, C.bok.zt, C.bok.zf, C.bok.zl⟩, C.len, C.rep, C.emp, C.nd, C.dis, C.nz, C.zt, C.tab, C.keep, C.newf, C.lkd, C.lks, C.zb, C.zn, hp⟩
/-- what stands still, stands still at every later state; a list seen, too -/
theorem vw_later {pins : List (Nat × V)} {Z2 : Addr → Prop} {σ2 : St} {H2 : Hp} {en2 : En} {fps2 : Nat → List Addr} (C : Cfg G B lk Z σ H Γ en fps) (D2 : Cfg G (rb H Z (L ++ lk) fps pins) (L ++ lk) Z2 σ2 H2 Γ2 en2 fps2) (h : Vw G L Z H fps v d) : Vw G L Z2 H2 fps2 v d := by
  have D3 : Cfg G (rb H Z (L ++ lk) fps []) (L ++ lk) Z2 σ2 H2 Γ2 en2 fps2 := cfg_pins D2 fun _ h => nomatch h
  have C3 : Cfg G ⟨B.H, B.Z, B.F, B.Lk, []⟩ lk Z σ H Γ en fps := cfg_pins C fun _ h => nomatch h
  exact Vw.stay h C3 (fun i m => List.mem_append_right _ m) (fun i m => List.mem_append_left _ m) D3
def mIt (f : D → Option (List D)) (m : EM) : AM := fun en => match m en with
  | .ok d en' => match f d with
    | some ds => .ok ds en'
    | none => .bad
  | .exc c x => .exc c x
  | .bad => .bad
theorem ii_any {tg : Expr} (hK : G.K = X.K) (h : OI X G W lk Γ e (.v L) Γ' m) : II X G W lk Γ tg e L Γ' (mIt dItems m) := PI.imp (pi_any h) fun σ H R ⟨B, Z, en, fps, C, o⟩ => by
  refine ⟨B, Z, en, fps, C, ?_⟩
  unfold mIt at o
  cases e : m en with
  | bad => rw [e] at o; exact o
  | exc c x => rw [e] at o; exact o
  | ok d en' =>
    rw [e] at o
    dsimp only at o
    intro v Z' H' fps' C' h'
    cases ed : dItems d with
    | none => rw [ed] at o; exact o.elim
    | some ds =>
      rw [ed] at o
      unfold dItems at ed
      split at ed
      · rename_i xs
        cases ed
        obtain ⟨a, vs, e1, e2, e3⟩ := Vw.lst h'
        refine .inl ⟨a, e1, ⟨vs, .inl (.of e2)⟩, o _ (fun Z H => H a = some (.lst vs) ∧ OwnL G Z H 0 vs ds []) _ _ _ C' (live_lst _) fun pins Z2 σ2 H2 Γ2 en2 fps2 D2 => ?_⟩
        obtain ⟨s1, s2, s3⟩ := stay_all (L := L) (cfg_pins C' (pins := []) fun _ h => nomatch h) (fun i m => List.mem_append_right _ m) (fun i m => List.mem_append_left _ m) (cfg_pins D2 (pins := []) fun _ h => nomatch h)
        have zz : ∀ a, Z' a → Z2 a ∧ ∀ o, H' a = some o → H2 a = some o := fun a z => ⟨D2.zb a z, (s2 a (.inl z)).2⟩
        refine ⟨?_, ownL_keep s1 zz e3 fun _ h => nomatch h⟩
        rcases h' with h' | ⟨b, ws, es, f1, f2, f3, h', i, hi, ha⟩
        · subst e1
          generalize hx : D.lst ds = dx at h'
          generalize hv : V.ref a = vx at h'
          cases h' with
          | lst z e h => cases hv; exact (zz _ z).2 _ e2
          | _ => cases hx
        · rw [e1] at f1
          cases f1
          exact (s2 a (.inr ⟨i, hi, ha⟩)).2 _ e2
      · rename_i xs
        cases ed
        have q : ∃ a vs, v = .ref a ∧ H' a = some (.tup vs) ∧ OwnL G Z' H' 0 vs ds [] := by
          rcases h' with h' | ⟨b, ws, es, f1, f2, f3, h', i, hi, ha⟩
          · exact own_tup h'
          · cases f2
        obtain ⟨a, vs, e1, e2, e3⟩ := q
        refine .inr (.inl ⟨a, e1, ⟨vs, .inl (.of e2)⟩, o _ (fun Z H => H a = some (.tup vs) ∧ OwnL G Z H 0 vs ds []) _ _ _ C' (live_tup _) fun pins Z2 σ2 H2 Γ2 en2 fps2 D2 => ?_⟩)
        obtain ⟨s1, s2, s3⟩ := stay_all (L := L) (cfg_pins C' (pins := []) fun _ h => nomatch h) (fun i m => List.mem_append_right _ m) (fun i m => List.mem_append_left _ m) (cfg_pins D2 (pins := []) fun _ h => nomatch h)
        exact ⟨s1 _ _ e2 fun z => z, ownL_keep s1 (fun a z => ⟨D2.zb a z, (s2 a (.inl z)).2⟩) e3 fun _ h => nomatch h⟩
      · rename_i ns
        cases ed
        obtain ⟨_, _, _, o3⟩ := Md.any (md := .v L) (B := B) h'
        obtain ⟨p, rfl, s⟩ := own_scr o3
        refine .inl ⟨p, rfl, ⟨_, hK ▸ s.sq⟩, o _ _ _ _ _ C' (live_scr hK) fun pins Z2 σ2 H2 Γ2 en2 fps2 D2 => ?_⟩
        rcases s with ⟨o, e⟩ | e
        · exact .inl ⟨o, D2.stayI _ _ e fun z => z⟩
        · exact .inr e
      · rename_i z
        cases ed
        obtain ⟨_, _, _, o3⟩ := Md.any (md := .v L) (B := B) h'
        exact .inr (.inr ⟨z, own_str o3, o _ (fun _ _ => True) _ _ _ C' live_str fun _ _ _ _ _ _ _ _ => trivial⟩)
      · cases ed
/-! ### range -/
def rngD (lo : Int) (n : Nat) : List D := (List.range n).map fun (i : Nat) => D.int (lo + (i : Int))
theorem live_rng {lo : Int} {n : Nat} : Live G (Itr lo n) (rngD lo n) fun _ _ => True where
  go := fun Z H i _ hi => by
    show i < n
    unfold rngD at hi
    simpa using hi
  stop := fun Z H i _ hi => by
    show n ≤ i
    unfold rngD at hi
    simpa using hi
  yld := fun Z H i d x H' _ hd ⟨e1, e2⟩ => by
    unfold rngD at hd
    rw [List.getElem?_map] at hd
    cases e : (List.range n)[i]? with
    | none => rw [e] at hd; cases hd
    | some j =>
      rw [e] at hd
      cases hd
      have : j = i := by
        rw [List.getElem?_eq_some_iff] at e
        obtain ⟨h, e⟩ := e
        simpa using e.symm
      subst this
      exact .inl ⟨e1, e2 ▸ .int⟩
def rngOk (i : Int) : Bool := decide (-1000000 ≤ i ∧ i ≤ 1000000)
def mRng1 (m : EM) : AM := fun en => match m en with
  | .ok (.int j) en' => if rngOk j then .ok (rngD 0 j.toNat) en' else .bad
  | .ok _ _ => .bad
  | .exc c x => .exc c x
  | .bad => .bad
theorem ii_rng1 {tg : Expr} {md : Md} {p : Pos} (hg : Gl X "range") (hm : X.mg "range" = none) (ha : OI X G W lk Γ a md Γ' m) (he : starEach (a :: []) X.env = (false, eval a X.env) :: starEach [] X.env := by rfl) (hs : starEach [a] X.env = [(false, eval a X.env)] := by rfl) :
    II X G W lk Γ tg (.Call (.Name "range" p) [a] [] pos) [] Γ' (mRng1 m) := PI.imp (pi_range1 hg hm (pa_cons ha pa_nil he) hs) fun σ H R ⟨B, Z, en, fps, C, o⟩ => by
  refine ⟨B, Z, en, fps, C, ?_⟩
  unfold mRng1 at o
  cases e : m en with
  | bad => rw [e] at o; exact o
  | exc c x => rw [e] at o; exact o
  | ok d en' =>
    rw [e] at o
    cases d with
    | int j =>
      dsimp only at o
      split at o
      · rename_i hr
        have hr : -1000000 ≤ j ∧ j ≤ 1000000 := of_decide_eq_true hr
        intro v Z' H' fps' C' h'
        obtain ⟨_, _, _, q⟩ := Md.any h'
        have q := own_int q
        subst q
        exact ⟨j, rfl, by omega, by omega, o _ (fun _ _ => True) _ _ _ C' live_rng fun _ _ _ _ _ _ _ _ => trivial⟩
      · exact o.elim
    | _ => exact o.elim
def mRng2 (ma mb : EM) : AM := fun en => match mm2 ma mb en with
  | .ok (.int i) (.int j) en' => if rngOk i && rngOk j then .ok (rngD i (j - i).toNat) en' else .bad
  | .ok _ _ _ => .bad
  | .exc c x => .exc c x
  | .bad => .bad
theorem ii_rng2 {tg : Expr} {md1 md2 : Md} {p : Pos} (hg : Gl X "range") (hm : X.mg "range" = none) (ha : OI X G W lk Γ a md1 Γ1 ma) (hb : OI X G W (md1.L ++ lk) Γ1 b md2 Γ2 mb)
    (he : starEach (a :: [b]) X.env = (false, eval a X.env) :: starEach [b] X.env := by rfl) (he2 : starEach [b] X.env = (false, eval b X.env) :: starEach [] X.env := by rfl) (hs : starEach [a, b] X.env = [(false, eval a X.env), (false, eval b X.env)] := by rfl) (hs2 : starEach [b] X.env = [(false, eval b X.env)] := by rfl) :
    II X G W lk Γ tg (.Call (.Name "range" p) [a, b] [] pos) [] Γ2 (mRng2 ma mb) := PI.imp (pi_range2 hg hm (pa_cons ha (pa_cons hb pa_nil he2) he) hs hs2) fun σ H R ⟨B, Z, en, fps, C, o⟩ => run2 C <| by
  unfold mRng2 at o
  cases e : mm2 ma mb en with
  | bad => rw [e] at o; exact o
  | exc c x => rw [e] at o; exact o
  | ok d1 d2 en' =>
    rw [e] at o
    intro v1 v2 Z' H' fps' C' h1 h2
    cases d1 with
    | int i =>
      cases d2 with
      | int j =>
        dsimp only at o
        split at o
        · rename_i hr
          rw [Bool.and_eq_true] at hr
          have r1 : -1000000 ≤ i ∧ i ≤ 1000000 := of_decide_eq_true hr.1
          have r2 : -1000000 ≤ j ∧ j ≤ 1000000 := of_decide_eq_true hr.2
          obtain ⟨_, _, _, q1⟩ := Md.any h1
          obtain ⟨_, _, _, q2⟩ := Md.any h2
          have q1 := own_int q1
          have q2 := own_int q2
          subst q1 q2
          exact ⟨i, j, rfl, ⟨by omega, by omega, by omega, by omega⟩, o _ (fun _ _ => True) _ _ _ C' live_rng fun _ _ _ _ _ _ _ _ => trivial⟩
        · exact o.elim
      | _ => exact o.elim
    | _ => exact o.elim
/-! ### for -/
def loopM (g : D → En → Option En) (mb : SM) : List D → SM
  | [] => fun en => .nx en
  | d :: ds => fun en => match g d en with
    | some en1 => match mb en1 with
      | .nx en2 => loopM g mb ds en2
      | r => r
    | none => .bad
def mFor (mi : AM) (g : D → En → Option En) (mb : SM) : SM := fun en => match mi en with
  | .ok ds en1 => loopM g mb ds en1
  | .exc c x => .exc c x
  | .bad => .bad
theorem si_for {tg iter : Expr} {body : List Stmt} {ts : List Nat} {mi : AM} {g : D → En → Option En} {mb : SM} (hp : PassesOwn (model X.prog X.w) X.A X.env X.xe) (hc : X.calm = true) (hW : WFree W) (hi : II X G W lk Γ tg iter L Γ1 mi)
    (hg : TgI X G (L ++ lk) ro Γ1 tg 0 Γb ts g) (hb : SsI X G W (L ++ lk) ro Γb body Γ1 mb) (hs : ∀ x, foldedSetIterable iter X.env x = pure x := by intro _; rfl) :
    SI X G W lk ro Γ (.For tg iter body [] pos) Γ1 (mFor mi g mb) := PS.imp (ps_for hp hc hi hg hb hs) fun D σ H ⟨B, Z, en, fps, P, C, o⟩ => by
  refine ⟨B, Z, en, fps, C, ?_⟩
  unfold mFor at o
  cases e : mi en with
  | bad => rw [e] at o; exact o
  | exc c x => rw [e] at o; exact fun Cc dd H' y => o Cc dd σ H' y
  | ok ds en1 =>
    rw [e] at o
    dsimp only at o
    intro J A Z1 H1 fps1 C1 Lv st
    have hl : ∀ i ∈ lk, i ∈ L ++ lk := fun i m => List.mem_append_right _ m
    have P1 : PinIn (rb H1 Z1 (L ++ lk) fps1 B.pins) ro := P
    refine ⟨fun i m σ' H' => ∃ Z' en' fps', i + m = ds.length ∧ Cfg G (rb H1 Z1 (L ++ lk) fps1 B.pins) (L ++ lk) Z' σ' H' Γ1 en' fps' ∧ OutS G (rb H1 Z1 (L ++ lk) fps1 B.pins) W (L ++ lk) ro Γ1 D (loopM g mb (ds.drop i) en'), ⟨ds.length, Z1, en1, fps1, by omega, C1.rebase _, o.comp C1 hl⟩, ?_⟩
    rintro i m σ2 H2 ⟨Z2, en2, fps2, em, C2, o2⟩
    have a := st _ _ _ _ _ _ _ C2
    by_cases hi : i < ds.length
    · refine .inr ⟨Lv.go _ _ _ a hi, fun σ' H' => ∃ m', m' < m ∧ ∃ Z' en' fps', (i + 1) + m' = ds.length ∧ Cfg G (rb H1 Z1 (L ++ lk) fps1 B.pins) (L ++ lk) Z' σ' H' Γ1 en' fps' ∧ OutS G (rb H1 Z1 (L ++ lk) fps1 B.pins) W (L ++ lk) ro Γ1 D (loopM g mb (ds.drop (i + 1)) en'), fun σ' H' h => h, fun x H3 y => ?_⟩
      rw [List.drop_eq_getElem_cons hi] at o2
      obtain ⟨C3, h3⟩ := (Lv.yld _ _ _ _ _ _ a (List.getElem?_eq_getElem hi) y).cfg C2
      refine ⟨_, Z2, en2, fps2, ds[i], [], P1, C3, h3, ?_⟩
      unfold loopM at o2
      cases eg : g ds[i] en2 with
      | none => rw [eg] at o2; exact o2.elim
      | some en3 =>
        rw [eg] at o2
        dsimp only at o2
        intro σ4 Z4 H4 fps4 C4 _
        refine ⟨_, Z4, en3, fps4, P1, C4, ?_⟩
        cases eb : mb en3 with
        | bad => rw [eb] at o2; exact o2
        | exc c x => rw [eb] at o2; exact o2
        | rt d en' => rw [eb] at o2; exact o2
        | nx en5 =>
          rw [eb] at o2
          exact fun σ' Z' H' fps' C' => ⟨m - 1, by omega, Z', en5, fps', by omega, C', o2⟩
    · have hd : ds.drop i = [] := List.drop_eq_nil_of_le (by omega)
      rw [hd] at o2
      exact .inl ⟨Lv.stop _ _ _ a (by omega), o2 _ _ _ _ C2⟩
/-! ### while -/
def loopW (mc : EM) (mb : SM) : Nat → SM
  | 0 => fun _ => .bad
  | n + 1 => fun en => match mc en with
    | .ok (.bl true) en1 => match mb en1 with
      | .nx en2 => loopW mc mb n en2
      | r => r
    | .ok (.bl false) en1 => .nx en1
    | .ok _ _ => .bad
    | .exc c x => .exc c x
    | .bad => .bad
theorem si_while {c : Expr} {body : List Stmt} {mc : EM} {mb : SM} (n : Nat) (hp : PassesOwn (model X.prog X.w) X.A X.env X.xe) (hW : WFree W) (hc : TI X G W lk Γ c Γ1 mc) (hb : SsI X G W lk ro Γ1 body Γ mb) (hh : Γ = Γ1 := by rfl) :
    SI X G W lk ro Γ (.While c body [] pos) Γ (loopW mc mb n) := PS.imp (ps_while hp hc hb) fun D σ H ⟨B, Z, en, fps, P, C, o⟩ => by
  subst hh
  refine ⟨fun m σ' H' => ∃ Z' en' fps', Cfg G B lk Z' σ' H' Γ en' fps' ∧ OutS G B W lk ro Γ D (loopW mc mb m en'), ⟨n, Z, en, fps, C, o⟩, ?_⟩
  rintro m σ2 H2 ⟨Z2, en2, fps2, C2, o2⟩
  refine ⟨B, Z2, en2, fps2, C2, ?_⟩
  cases m with
  | zero => exact o2.elim
  | succ m =>
    unfold loopW at o2
    cases e : mc en2 with
    | bad => rw [e] at o2; exact o2
    | exc c x => rw [e] at o2; exact fun Cc dd H' y => o2 Cc dd σ2 H' y
    | ok d en3 =>
      rw [e] at o2
      cases d with
      | bl c =>
        intro Z3 H3 fps3 C3
        cases c with
        | true =>
          rw [if_pos rfl]
          refine ⟨fun σ' H' => ∃ m', m' < m + 1 ∧ ∃ Z' en' fps', Cfg G B lk Z' σ' H' Γ en' fps' ∧ OutS G B W lk ro Γ D (loopW mc mb m' en'), fun σ' H' h => h, B, Z3, en3, fps3, P, C3, ?_⟩
          dsimp only at o2
          cases eb : mb en3 with
          | bad => rw [eb] at o2; exact o2
          | exc c x => rw [eb] at o2; exact o2
          | rt d en' => rw [eb] at o2; exact o2
          | nx en5 =>
            rw [eb] at o2
            exact fun σ' Z' H' fps' C' => ⟨m, Nat.lt_succ_self _, Z', en5, fps', C', o2⟩
        | false =>
          rw [if_neg Bool.false_ne_true]
          exact o2 _ _ _ _ C3
      | _ => exact o2.elim
end
end Im
/-! Comprehensions. -/
namespace Im
open PySem PySem.Spec PyProof.Rows L2
section
variable {G : GI} {B B' : Bs} {W : WX} {lk lk' L L' La Lb : List Nat} {Z Z' : Addr → Prop} {σ σ' : St} {H H' : Hp} {Γ Γ' Γ1 Γ2 Γ3 Γb Γt : List Nat} {en en' : En} {fps fps' : Nat → List Addr} {κ κ' : Nat} {κs : List Nat} {v : V} {d : D} {ro : RO}
variable {X : Cx} {pos : Pos} {m ma mb : EM} {e a b : Expr}
/-- an untracked object changes -/
theorem upd_at {p : Addr} {o u : HO} {a : Addr} (h : H a = some u) (n : a ≠ p) : upd H p o a = some u := by rw [upd_ne n]; exact h
theorem Cfg.over {p : Addr} {o o1 : HO} (C : Cfg G B lk Z σ H Γ en fps) (hp : H p = some o1) (hc : Chg o1) (hz : ¬ Z p) (hf : ∀ i, p ∉ fps i) (hb : B.H p = none) (ho : NT o := by exact fun _ z => nomatch z) : Cfg G B lk Z σ (upd H p o) Γ en fps where
  bok := C.bok
  len := C.len
  rep := fun i d e => by
    obtain ⟨v, h1, h2⟩ := C.rep i d e
    exact ⟨v, h1, own_keep (fun a u q n => upd_at q fun z => by subst z; rw [hp] at q; cases q; exact n hc.t) (fun a z => ⟨z, fun u q => upd_at q fun (y : a = p) => hz (y ▸ z)⟩) h2 fun a m u q => upd_at q fun y => hf i (y ▸ m)⟩
  emp := C.emp
  nd := C.nd
  dis := C.dis
  nz := C.nz
  zt := fun a z => by
    obtain ⟨u, q, t⟩ := C.zt a z
    exact ⟨u, upd_at q fun (y : a = p) => hz (y ▸ z), t⟩
  tab := tabs_upd C.tab hp hc ho
  keep := fun a u e n => by
    rw [upd_ne fun y => by subst y; rw [hb] at e; cases e]
    exact C.keep a u e n
  newf := C.newf
  lkd := C.lkd
  lks := C.lks
  zb := C.zb
  zn := C.zn
  pin := C.pin
theorem HeldL.over {p : Addr} {o o1 : HO} {vs : List V} {ds : List D} {fp : List Addr} (h : HeldL G B [] Z H fps κ vs ds fp) (hp : H p = some o1) (hc : Chg o1) (hz : ¬ Z p) (hf : p ∉ fp) : HeldL G B [] Z (upd H p o) fps κ vs ds fp :=
  ⟨ownL_keep (fun a u q n => upd_at q fun z => by subst z; rw [hp] at q; cases q; exact n hc.t) (fun a z => ⟨z, fun u q => upd_at q fun (y : a = p) => hz (y ▸ Zl_nil.mp z)⟩) h.own fun a m u q => upd_at q fun y => hf (y ▸ m), h.nd, h.nz, h.ds, h.nw⟩
theorem Cfg.wipe {vs : List Nat} (C : Cfg G B lk Z σ H Γ en fps) (he : ∀ i ∈ vs, ∀ d, en[i]? ≠ some (some d)) (hp : B.pins = []) : Cfg G B lk Z (L2.wipe σ vs) H Γ en fps :=
  { C with
    len := by rw [wipe_length]; exact C.len
    rep := fun i d e => by
      obtain ⟨v, h1, h2⟩ := C.rep i d e
      exact ⟨v, by rw [wipe_out fun m => he i m d e]; exact h1, h2⟩
    pin := fun p m => by rw [hp] at m; cases m }
theorem Cfg.unwipe {vs : List Nat} (C : Cfg G B lk Z (L2.wipe σ vs) H Γ en fps) (hp : B.pins = []) : Cfg G B lk Z σ H Γ en fps :=
  { C with
    len := by rw [← wipe_length σ vs]; exact C.len
    rep := fun i d e => by
      obtain ⟨v, h1, h2⟩ := C.rep i d e
      exact ⟨v, (wipe_some h1).1, h2⟩
    pin := fun p m => by rw [hp] at m; cases m }
def eqOff (vs Γ Γ' : List Nat) : Bool := Γ.length == Γ'.length && (List.range Γ.length).all fun i => vs.contains i || Γ.getD i 0 == Γ'.getD i 0
theorem eqOff_of {vs Γ Γ' : List Nat} (h : eqOff vs Γ Γ' = true) : ∀ i, i ∉ vs → Γ.getD i 0 = Γ'.getD i 0 := fun i hi => by
  unfold eqOff at h
  rw [Bool.and_eq_true, List.all_eq_true] at h
  have hl : Γ.length = Γ'.length := by simpa using h.1
  by_cases hb : i < Γ.length
  · have q := h.2 i (List.mem_range.mpr hb)
    rw [Bool.or_eq_true] at q
    rcases q with q | q
    · exact absurd (by simpa using q) hi
    · simpa using q
  · rw [List.getD_eq_getElem?_getD, List.getD_eq_getElem?_getD, List.getElem?_eq_none (by omega), List.getElem?_eq_none (by omega)]
theorem Cfg.reΓ {vs : List Nat} (C : Cfg G B lk Z σ H Γ en fps) (he : ∀ i ∈ vs, ∀ d, en[i]? ≠ some (some d)) (h : eqOff vs Γ Γ' = true) : Cfg G B lk Z σ H Γ' en fps :=
  { C with
    rep := fun i d e => by
      obtain ⟨v, h1, h2⟩ := C.rep i d e
      rw [← eqOff_of h i fun m => he i m d e]
      exact ⟨v, h1, h2⟩ }
theorem wipe_ext {σ σ' : St} {ts vs : List Nat} (h : Off ts σ σ') (hs : ∀ i ∈ ts, i ∈ vs) (_u : True) : L2.wipe σ' vs = L2.wipe σ vs := by
  apply List.ext_getElem?
  intro i
  by_cases hi : i ∈ vs
  · have key : ∀ (τ : St) (vs : List Nat), i ∈ vs → (L2.wipe τ vs)[i]? = if i < τ.length then some none else none := by
      intro τ vs
      induction vs with
      | nil => intro h; cases h
      | cons j vs ih =>
        intro h
        show ((L2.wipe τ vs).set j none)[i]? = _
        by_cases e : j = i
        · subst e
          by_cases hl : j < τ.length
          · rw [List.getElem?_set_self (by rw [wipe_length]; exact hl), if_pos hl]
          · rw [List.getElem?_eq_none (by rw [List.length_set, wipe_length]; omega), if_neg hl]
        · rw [List.getElem?_set_ne e]
          rcases List.mem_cons.mp h with h | h
          · exact absurd h.symm e
          · exact ih h
    rw [key σ' vs hi, key σ vs hi, h.1]
  · rw [wipe_out hi, wipe_out hi]
    exact h.2 i fun m => hi (hs i m)
theorem Cfg.fewer {vs : List V} {ds : List D} {fp : List Addr} (h : HeldL G B L Z H fps κ vs ds fp) (hL : L = []) (s : ∀ i a, a ∈ fps' i → a ∈ fps i) : HeldL G B L Z H fps' κ vs ds fp := by
  subst hL
  exact ⟨h.own.monoZ fun a z => .inl (Zl_nil.mp z), h.nd, h.nz, fun a m i q => h.ds a m i (s i a q), h.nw⟩
/-- nothing may be raised -/
def WN : WX := fun _ _ _ _ => False
def TtI (X : Cx) (G : GI) (W : WX) (lk Γ : List Nat) (ifs : List Expr) (Γ' : List Nat) (m : EM) : Prop := PTs X ifs (tT G W lk Γ Γ' m)
theorem PTs.imp {X : Cx} {ifs : List Expr} {t t' : TT} (h : PTs X ifs t) (i : ∀ σ H Q, t' σ H Q → t σ H Q) : PTs X ifs t' := ⟨fun pins s σ H Q I q => h.run pins s σ H Q I (i σ H Q q)⟩
theorem tt_nil : TtI X G W lk Γ [] Γ (mC (.bl true)) := PTs.imp pts_nil fun σ H Q ⟨B, Z, en, fps, C, o⟩ => o Z H fps C
theorem tt_one {c : Expr} (h : TI X G W lk Γ c Γ' m) : TtI X G W lk Γ [c] Γ' m := pts_one h
def compM (g : D → En → Option En) (mt me : EM) (vs : List Nat) : List D → List D → En → Res
  | [], acc, en => .ok (.lst acc) en
  | d :: ds, acc, en => match g d en with
    | some en1 => match mt en1 with
      | .ok (.bl true) en2 => match me en2 with
        | .ok y en3 => if acc.length < lim then compM g mt me vs ds (acc ++ [y]) (killE vs en3) else .bad
        | _ => .bad
      | .ok (.bl false) en2 => compM g mt me vs ds acc (killE vs en2)
      | _ => .bad
    | none => .bad
def mLc (mi : AM) (g : D → En → Option En) (mt me : EM) (vs : List Nat) : EM := fun en => match mi en with
  | .ok ds en1 => compM g mt me vs ds [] (killE vs en1)
  | .exc c x => .exc c x
  | .bad => .bad
def ro0 : RO := ⟨[], 0⟩
theorem lc_run {vs ts : List Nat} {mi : AM} {g : D → En → Option En} {mt me : EM} {Q : VK}
    (hv : ∀ i ∈ vs, i ∉ L ++ lk) (hts : ∀ i ∈ ts, i ∈ vs) (h1 : eqOff vs Γt Γ1 = true) (h2 : eqOff vs Γ2 Γ1 = true)
    (C : Cfg G B lk Z σ H Γ en fps) (o : OutE G B W lk (κ + 1) [] Γ1 σ Q (mLc mi g mt me vs en)) :
    tLc (tI G W lk Γ L Γ1 mi) (tG G (L ++ lk) ro0 Γ1 0 Γb ts g) (tT G WN (L ++ lk) Γb Γt mt) (tE G WN (L ++ lk) Γt κ [] Γ2 me) vs σ H Q := by
  refine ⟨B, Z, en, fps, C, ?_⟩
  unfold mLc at o
  cases e : mi en with
  | bad => rw [e] at o; exact o
  | exc c x => rw [e] at o; exact o
  | ok ds en1 =>
    rw [e] at o
    dsimp only at o
    intro J A Z1 H1 fps1 C1 Lv st p hp
    have hl : ∀ i ∈ lk, i ∈ L ++ lk := fun i m => List.mem_append_right _ m
    -- the base of the whole walk
    generalize hB1 : rb H1 Z1 (L ++ lk) fps1 [] = B1
    have C1' : Cfg G B1 (L ++ lk) Z1 σ H1 Γ1 en1 fps1 := hB1 ▸ C1.rebaseP _ [] fun _ h => nomatch h
    have pB1 : B1.pins = [] := by rw [← hB1]; rfl
    have hB1H : B1.H = H1 := by rw [← hB1]; rfl
    have hbp : B1.H p = none := by rw [hB1H]; exact hp
    -- out again
    have back : ∀ {Z' : Addr → Prop} {H' : Hp} {en' : En} {fps' : Nat → List Addr}, Cfg G B1 (L ++ lk) Z' (L2.wipe σ vs) H' Γ1 en' fps' → Cfg G B lk Z' σ H' Γ1 en' fps' := fun {Z' H' en' fps'} D => by
      have D1 := D.unwipe pB1
      rw [← hB1] at D1
      have E := Cfg.comp (cfg_pins C1 (pins := []) fun _ h => nomatch h) hl D1
      have E2 := cfg_pins (pins := B.pins) E fun q m => C1.pin q m
      exact E2
    refine ⟨fun i m H' => ∃ Z' en' fps' acc dacc fp, i + m = ds.length ∧ Cfg G B1 (L ++ lk) Z' (L2.wipe σ vs) H' Γ1 en' fps' ∧ H' p = some (.lst acc) ∧ HeldL G B1 [] Z' H' fps' κ acc dacc fp ∧ p ∉ fp ∧ ¬ Z' p ∧ (∀ i, p ∉ fps' i) ∧ (∀ i ∈ vs, ∀ d, en'[i]? ≠ some (some d)) ∧ OutE G B W lk (κ + 1) [] Γ1 σ Q (compM g mt me vs (ds.drop i) dacc en'), ?_, ?_⟩
    · obtain ⟨f0, C2, sb⟩ := C1'.killS (is := vs) hv
      have C3 := (C2.wipe (fun i m d => killE_none m) pB1).grow (o := .lst []) hp
      refine ⟨ds.length, Z1, killE vs en1, f0, [], [], [], by omega, C3, upd_same, ⟨.nil, List.nodup_nil, (fun _ h => nomatch h), (fun _ h => nomatch h), (fun _ h => nomatch h)⟩, (fun h => nomatch h), fun z => ?_, fun i m => ?_, fun i m d => killE_none m, o⟩
      · obtain ⟨u, q, _⟩ := C1.zt p z
        rw [hp] at q; cases q
      · obtain ⟨u, q, _⟩ := C1.chg (sb i p m)
        rw [hp] at q; cases q
    · rintro i m H2 ⟨Z2, en2, fps2, acc, dacc, fp, em, C2, hD, hh, pfp, pZ, pf, env, o2⟩
      have hA : A Z2 H2 := by
        have C2 := C2
        rw [← hB1] at C2
        exact st _ _ _ _ _ _ _ C2
      by_cases hi : i < ds.length
      · refine .inr ⟨Lv.go _ _ _ hA hi, fun H' => ∃ m', m' < m ∧ ∃ Z' en' fps' acc dacc fp, (i + 1) + m' = ds.length ∧ Cfg G B1 (L ++ lk) Z' (L2.wipe σ vs) H' Γ1 en' fps' ∧ H' p = some (.lst acc) ∧ HeldL G B1 [] Z' H' fps' κ acc dacc fp ∧ p ∉ fp ∧ ¬ Z' p ∧ (∀ i, p ∉ fps' i) ∧ (∀ i ∈ vs, ∀ d, en'[i]? ≠ some (some d)) ∧ OutE G B W lk (κ + 1) [] Γ1 σ Q (compM g mt me vs (ds.drop (i + 1)) dacc en'), fun H' h => h, fun x H3 y => ?_⟩
        rw [List.drop_eq_getElem_cons hi] at o2
        have fr := Lv.yld _ _ _ _ _ _ hA (List.getElem?_eq_getElem hi) y
        obtain ⟨C3, h3⟩ := fr.cfg C2
        have g3 : HeldL G B1 [] Z2 H3 fps2 κ acc dacc fp ∧ H3 p = some (.lst acc) := by
          rcases fr with ⟨rfl, _⟩ | ⟨T, ws, dv, _, hT, rfl, _, _⟩
          · exact ⟨hh, hD⟩
          · exact ⟨hh.grow hT, upd_keep hT _ _ hD⟩
        obtain ⟨hh3, hD3⟩ := g3
        have C3b : Cfg G (rb H3 Z2 (L ++ lk) fps2 B1.pins) (L ++ lk) Z2 (L2.wipe σ vs) H3 Γ1 en2 fps2 := C3.rebase _
        have h3b : Held G (rb H3 Z2 (L ++ lk) fps2 B1.pins) [] Z2 H3 fps2 0 x ds[i] [] := ⟨h3.own, h3.nd, h3.nz, h3.ds, (fun _ h => nomatch h)⟩
        refine ⟨_, Z2, en2, fps2, ds[i], [], fun q m => ?_, C3b, h3b, ?_⟩
        · have m : q ∈ B1.pins := m
          rw [pB1] at m; cases m
        unfold compM at o2
        cases eg : g ds[i] en2 with
        | none => rw [eg] at o2; exact o2.elim
        | some en3 =>
          rw [eg] at o2
          dsimp only at o2
          intro σ4 Z4 H4 fps4 C4 off
          have hw : L2.wipe σ4 vs = L2.wipe σ vs := by
            rw [wipe_ext (vs := vs) off hts trivial]
            exact (wipe_ext (vs := vs) (ts := vs) (σ := σ) ⟨wipe_length _ _, fun j hj => wipe_out hj⟩ (fun _ h => h) trivial)
          refine ⟨hw, _, Z4, en3, fps4, C4, ?_⟩
          -- what is untracked stays so
          have stays : ∀ {Z' : Addr → Prop} {H' : Hp} {Γ' : List Nat} {en' : En} {fps' : Nat → List Addr}, Cfg G (rb H3 Z2 (L ++ lk) fps2 B1.pins) (L ++ lk) Z' σ4 H' Γ' en' fps' → H' p = some (.lst acc) ∧ ¬ Z' p ∧ (∀ i, p ∉ fps' i) ∧ HeldL G B1 [] Z' H' fps' κ acc dacc fp := fun {Z' H' Γ' en' fps'} D => by
            refine ⟨(D.keep p _ hD3 fun ⟨j, _, q⟩ => pf j q).eq (fun _ z => nomatch z), fun z => ?_, fun j q => ?_, hh3.stay C3 (fun _ h => h) (fun _ h => nomatch h) D⟩
            · rcases D.zn p z with q | ⟨j, _, q⟩ | ⟨j, _, q⟩ | q
              · exact pZ q
              · exact pf j q
              · exact pf j q
              · have q : H3 p = none := q
                rw [hD3] at q; cases q
            · rcases D.newf j p q with ⟨l, _, q⟩ | ⟨_, q⟩ | q
              · exact pf l q
              · exact pf j q
              · have q : H3 p = none := q
                rw [hD3] at q; cases q
          cases et : mt en3 with
          | bad => rw [et] at o2; exact o2
          | exc c x => rw [et] at o2; exact o2.elim
          | ok dt en5 =>
            rw [et] at o2
            cases dt with
            | bl c =>
              intro Z5 H5 fps5 C5
              cases c with
              | false =>
                rw [if_neg Bool.false_ne_true]
                obtain ⟨a1, a2, a3, a4⟩ := stays C5
                obtain ⟨f6, C6, sb⟩ := C5.killS (is := vs) hv
                have C7 := (C6.wipe (fun i m d => killE_none m) (by rw [← pB1]; rfl)).reΓ (fun i m d => killE_none m) h1
                rw [hw] at C7
                exact ⟨m - 1, by omega, Z5, killE vs en5, f6, acc, dacc, fp, by omega, C3.comp (fun _ h => h) C7, a1, Cfg.fewer a4 rfl sb, pfp, a2, fun i q => a3 i (sb i p q), fun i m d => killE_none m, o2⟩
              | true =>
                rw [if_pos rfl]
                refine ⟨_, Z5, en5, fps5, C5, ?_⟩
                dsimp only at o2
                cases ee : me en5 with
                | bad => rw [ee] at o2; exact o2
                | exc c x => rw [ee] at o2; exact o2.elim
                | ok dy en7 =>
                  rw [ee] at o2
                  dsimp only at o2
                  intro yv Z7 H7 fps7 fp7 C7 h7
                  obtain ⟨a1, a2, a3, a4⟩ := stays C7
                  split at o2
                  · rename_i hlen
                    refine ⟨acc, a1, ?_, ?_⟩
                    · rw [a4.own.len]; exact Nat.lt_of_lt_of_le hlen (by decide)
                    have pfp7 : p ∉ fp7 := fun q => by
                      rcases h7.nw p q with ⟨j, _, z⟩ | z
                      · exact pf j z
                      · have z : H3 p = none := z
                        rw [hD3] at z; cases z
                    have ap := held_apart (lk' := L ++ lk) (fps := fps2) (B := B1) (fp' := fp7) C3 hh3.own.chg hh3.ds h7.nw
                    have C7c := C3.comp (fun _ h => h) C7
                    have h7c := Held.comp C3 (fun _ h => h) h7
                    have hL : HeldL G B1 [] Z7 H7 fps7 κ (acc ++ [yv]) (dacc ++ [dy]) (fp ++ fp7) := by
                      refine ⟨?_, List.nodup_append.mpr ⟨a4.nd, h7c.nd, fun x hx y hy e => ap x hx (e ▸ hy)⟩, fun a m => ?_, fun a m => ?_, fun a m => ?_⟩
                      · have q : OwnL G (Zl Z7 [] fps7) H7 κ [yv] [dy] fp7 := by
                          have q := OwnL.cons h7c.own (OwnL.nil (G := G) (Z := Zl Z7 [] fps7) (H := H7) (k := κ))
                          rwa [List.append_nil] at q
                        exact a4.own.append q
                      all_goals rcases List.mem_append.mp m with m | m
                      · exact a4.nz a m
                      · exact h7c.nz a m
                      · exact a4.ds a m
                      · exact h7c.ds a m
                      · exact a4.nw a m
                      · exact h7c.nw a m
                    have pn : p ∉ fp ++ fp7 := fun q => (List.mem_append.mp q).elim pfp pfp7
                    have hL2 := hL.over (o := .lst (acc ++ [yv])) a1 trivial a2 pn
                    have C8 := C7c.over (o := .lst (acc ++ [yv])) a1 trivial a2 a3 hbp
                    obtain ⟨f6, C9, sb⟩ := C8.killS (is := vs) hv
                    have C10 := (C9.wipe (fun i m d => killE_none m) pB1).reΓ (fun i m d => killE_none m) h2
                    rw [hw] at C10
                    exact ⟨m - 1, by omega, Z7, killE vs en7, f6, acc ++ [yv], dacc ++ [dy], fp ++ fp7, by omega, C10, upd_same, Cfg.fewer hL2 rfl sb, pn, a2, fun i q => a3 i (sb i p q), fun i m d => killE_none m, o2⟩
                  · exact o2.elim
            | _ => exact o2.elim
      · have hd : ds.drop i = [] := List.drop_eq_nil_of_le (by omega)
        rw [hd] at o2
        refine .inl ⟨Lv.stop _ _ _ hA (by omega), ?_⟩
        unfold compM at o2
        have C3 := back C2
        refine o2 (.ref p) Z2 H2 fps2 (p :: fp) C3 ⟨.own hD hh.own, List.nodup_cons.mpr ⟨pfp, hh.nd⟩, fun a m => ?_, fun a m => ?_, fun a m => ?_⟩
        · rcases List.mem_cons.mp m with rfl | m
          · exact pZ
          · exact hh.nz a m
        · rcases List.mem_cons.mp m with rfl | m
          · exact pf
          · exact hh.ds a m
        · rcases List.mem_cons.mp m with rfl | m
          · exact C1.none_of hp
          · rcases hh.nw a m with z | z
            · rw [← hB1] at z
              obtain ⟨j, hj, z⟩ := z
              rcases C1.newf j a z with y | y | y
              · exact .inl y
              · exact absurd (hl j (C1.bok.lki j a y)) hj
              · exact .inr y
            · rw [hB1H] at z
              exact C1.none_of z
theorem ei_lc {tg iter elt : Expr} {ifs : List Expr} {scope : Scope} {own : List (Str × Nat)} {ts : List Nat} {mi : AM} {g : D → En → Option En} {mt me : EM} (hc : X.calm = true) (hN : X.N.Nodup) (hi : II X G W lk Γ tg iter L Γ1 mi) (ok : BlkOk X.N X.env.scope scope own)
    (hg : ∀ (s : Shared) (H : Hp) (C : Addr) (cl : List (Str × Addr)) (fp : List Addr), TgI (X.blk s H scope (compEnvC scope cl C X.env) fp) G (L ++ lk) ro0 Γ1 tg 0 Γb ts g)
    (ht : ∀ (s : Shared) (H : Hp) (C : Addr) (cl : List (Str × Addr)) (fp : List Addr), TtI (X.blk s H scope (compEnvC scope cl C X.env) fp) G WN (L ++ lk) Γb ifs Γt mt)
    (he : ∀ (s : Shared) (H : Hp) (C : Addr) (cl : List (Str × Addr)) (fp : List Addr), EI (X.blk s H scope (compEnvC scope cl C X.env) fp) G WN (L ++ lk) Γt elt κ [] Γ2 me)
    (hv : ∀ i ∈ own.map (·.2), i ∉ L ++ lk := by decide) (hts : ∀ i ∈ ts, i ∈ own.map (·.2) := by decide) (h1 : eqOff (own.map (·.2)) Γt Γ1 = true := by decide) (h2 : eqOff (own.map (·.2)) Γ2 Γ1 = true := by decide) (hs : ∀ x, foldedSetIterable iter X.env x = pure x := by intro _; rfl) :
    EI X G W lk Γ (.ListComp elt [⟨tg, iter, ifs, 0⟩] scope pos) (κ + 1) [] Γ1 (mLc mi g mt me (own.map (·.2))) :=
  PE.imp (pe_lc hc hN hi ok hg ht he hs) fun σ H Q ⟨B, Z, en, fps, C, o⟩ => lc_run hv hts h1 h2 C o
/-- name = [..], on one line -/
theorem si_setLc {i : Nat} {y : Str} {py : Pos} {spos : Pos} {tg iter elt : Expr} {ifs : List Expr} {scope : Scope} {own : List (Str × Nat)} {ts : List Nat} {mi : AM} {g : D → En → Option En} {mt me : EM} (hc : X.calm = true) (hN : X.N.Nodup) (hW : WFree W) (hy : X.N[i]? = some y) (hyl : X.env.scope.names.lookup y = some .local)
    (hsw : swapsWith (.ListComp elt [⟨tg, iter, ifs, 0⟩] scope pos) (some (.Name y py)) spos.line X.env = pure true) (hi : II X G W lk Γ tg iter L Γ1 mi) (ok : BlkOk X.N X.env.scope scope own)
    (hg : ∀ (s : Shared) (H : Hp) (C : Addr) (cl : List (Str × Addr)) (fp : List Addr), TgI (X.blk s H scope (compEnvC scope cl C X.env) fp) G (L ++ lk) ro0 Γ1 tg 0 Γb ts g)
    (ht : ∀ (s : Shared) (H : Hp) (C : Addr) (cl : List (Str × Addr)) (fp : List Addr), TtI (X.blk s H scope (compEnvC scope cl C X.env) fp) G WN (L ++ lk) Γb ifs Γt mt)
    (he : ∀ (s : Shared) (H : Hp) (C : Addr) (cl : List (Str × Addr)) (fp : List Addr), EI (X.blk s H scope (compEnvC scope cl C X.env) fp) G WN (L ++ lk) Γt elt κ [] Γ2 me)
    (hv : ∀ i ∈ own.map (·.2), i ∉ L ++ lk := by decide) (hts : ∀ i ∈ ts, i ∈ own.map (·.2) := by decide) (h1 : eqOff (own.map (·.2)) Γt Γ1 = true := by decide) (h2 : eqOff (own.map (·.2)) Γ2 Γ1 = true := by decide)
    (g1 : i ∉ lk := by decide) (g2 : i < Γ1.length := by decide) (g3 : (ro.io.getD i none).isSome = false := by rfl) (hs : ∀ x, foldedSetIterable iter X.env x = pure x := by intro _; rfl) :
    SI X G W lk ro Γ (.Assign [.Name y py] (.ListComp elt [⟨tg, iter, ifs, 0⟩] scope pos) spos) (Γ1.set i (κ + 1)) (mSet i (mLc mi g mt me (own.map (·.2)))) :=
  PS.imp (ps_setLc hc hN hy hyl hsw hi ok hg ht he hs) fun D σ H ⟨B, Z, en, fps, P, C, o⟩ => by
    refine lc_run (Γ1 := Γ1) (κ := κ) (W := W) hv hts h1 h2 C ?_
    unfold mSet at o
    cases e : mLc mi g mt me (own.map (·.2)) en with
    | bad => rw [e] at o; exact o
    | exc c x => rw [e] at o; exact fun Cc dd H' y => o Cc dd σ H' y
    | ok d en' =>
      rw [e] at o
      intro v Z' H' fps' fp C' h'
      exact o _ _ _ _ (C'.set h' g1 g2 (pin_ne P g3))
end
end Im
/-! Defs: what they promise; calls. -/
namespace Im
open PySem PySem.Spec PyProof.Rows L2
/-- a def's promise, called where no repr is under way -/
structure FnG (P : Program) (w : World) (K : PySem.W.Frag) (mg : Str → Option Value) (base : Heap) (CX : CXT) (k : Nat) (f : Addr) (fd : FuncData) (ps : List Str) (sp : Sp) : Prop where
  len : ∀ vs H Q E, sp vs H Q E → vs.length = ps.length
  run : ∀ (A : Around) (outer : List Env) (s : Shared) (H : Hp) (args : Args) (us : List Value) (vs : List V) (Q : VK) (E : XK), A.guards = some [] → Room k A → Env0 P w K mg base A outer s H → BindsTo s fd args (ps.zip us) → Vals vs us → sp vs H Q E →
    codeAny (model P w) A (.call (.ref f) args) (CR CX outer P w H s Q E) s
theorem guards_deeper {A : Around} {env : Env} (h : A.guards = some []) : (A.deeper env).guards = some [] := h
theorem FnG.mono {P : Program} {w : World} {K : PySem.W.Frag} {mg : Str → Option Value} {base : Heap} {CX : CXT} {j k : Nat} {f : Addr} {fd : FuncData} {ps : List Str} {sp : Sp} (F : FnG P w K mg base CX j f fd ps sp) (h : j ≤ k) : FnG P w K mg base CX k f fd ps sp :=
  ⟨F.len, fun A outer s H args us vs Q E hg hr => F.run A outer s H args us vs Q E hg (hr.mono h)⟩
/-- a def by its body -/
theorem fnG_of {P : Program} {w : World} {K : PySem.W.Frag} {mg : Str → Option Value} {base : Heap} {x qual : Str} {st : Stmt} {f : Addr} {fd : FuncData} {N ps : List Str} {k : Nat} {sp : Sp} (F : Fun K x qual st f fd) (S : FnScope N ps (defScope st)) (len : ∀ vs H Q E, sp vs H Q E → vs.length = ps.length)
    (hbody : ∀ (cdv : Value) (A : Around) (outer : List Env) (s : Shared) (H : Hp) (vs : List V) (Q : VK) (E : XK), A.guards = some [] → Room k (A.deeper (envOfC qual (defScope st) s.heap.objs.size f cdv)) → sp vs H Q E →
      ∃ t, PSs (cxOf (L2.CX P w) P w K mg base N qual (defScope st) f cdv A outer s H E) (defBody st) t ∧ t { nx := fun _ H' => Q .non H', rt := Q } (L2.start N vs) H) : FnG P w K mg base (L2.CX P w) (k + 1) f fd ps sp := by
  obtain ⟨oc, od, kV, doc, pm, an, cdv, ct, osl, rfl, hl, hcd⟩ := F.ex
  refine ⟨len, fun A outer s H args us vs Q E hg hr e0 hb r hsp => ?_⟩
  have inK : K.In s.heap := e0.mod.kin.keeps fun b o e => (e0.bs b o e).1
  have noLim : s.heap.NoLimit := e0.mod.nolimit.keeps fun b o e => (e0.bs b o e).1
  have kinds : ∀ y ∈ ps.zip us, (defScope st).names.lookup y.1 = some .local ∨ ((defScope st).names.lookup y.1 = some .cell ∧ ((cellsFrom (s.heap.objs.size + 1) (defScope st).names []).lookup y.1).isSome = true) := fun y hy =>
    (S.par y.1 (List.of_mem_zip hy).1).imp id fun q => ⟨q, PySem.W.cellsFrom_some _ _ _ (.inl q)⟩
  obtain ⟨t, ht, hq⟩ := hbody cdv A outer s H vs Q E hg (hr.deeper _) hsp
  refine codeAny_call_function hr.depth (inK _ _ hl) rfl S.co S.gen rfl (PySem.W.codeRec_of inK hcd) (hb _ _ _ _ (wpAny_newFunctionEnv_cells S.kind kinds fun env he s1 x => ?_))
  subst he
  refine ⟨noLim.keeps x.toInCall.keep, codeAny_func (wpAny_mono (ht.run [] s1 (L2.start N vs) H _ (inv_start S hr.hd e0 (len _ _ _ _ hsp) r x) hq) (fun fl s' hs => ?_) fun _ _ hs => hs)⟩
  cases fl with
  | ret u =>
    obtain ⟨v, σ', H', J, rv, q⟩ := hs
    exact ⟨v, H', J.os, J.bare, J.base, J.hok, rv, q⟩
  | next =>
    obtain ⟨σ', H', J, q⟩ := hs
    exact ⟨.non, H', J.os, J.bare, J.base, J.hok, rfl, q⟩
  | brk => obtain ⟨_, _, _, q⟩ := hs; exact q.elim
  | cont => obtain ⟨_, _, _, q⟩ := hs; exact q.elim
inductive FRes where
  | ok (d : D) (ios : En) | exc (c : Str) (x : D) | bad
/-- kinds of the parameters; of those given back; of the result -/
structure Sg where
  ks : List Nat
  io : List (Option Nat)
  κ : Nat
structure ArgsH (G : GI) (Z : Addr → Prop) (H : Hp) (ks : List Nat) (vs : List V) (ds : List D) (f : Nat → List Addr) : Prop where
  own : ∀ j d, ds[j]? = some d → ∃ v, vs[j]? = some v ∧ Own G Z H (ks.getD j 0) v d (f j)
  len : vs.length = ds.length
  emp : ∀ j, ds.length ≤ j → f j = []
  nd : ∀ j, (f j).Nodup
  dis : ∀ i j a, a ∈ f i → a ∈ f j → i = j
  nz : ∀ j a, a ∈ f j → ¬ Z a
structure EndOk (G : GI) (sg : Sg) (H : Hp) (Z : Addr → Prop) (f : Nat → List Addr) (vs : List V) (d : D) (ios : En) (v : V) (Z' : Addr → Prop) (H' : Hp) (fr : List Addr) (f' : Nat → List Addr) : Prop where
  keep : ∀ a o, H a = some o → (∀ j, a ∉ f j) → Kp o (H' a)
  tab : TabO G.T H'
  zb : ∀ a, Z a → Z' a
  zn : ∀ a, Z' a → Z a ∨ (∃ j, a ∈ f j) ∨ H a = none
  zt : ∀ a, Z' a → ∃ o, H' a = some o ∧ NT o
  own : Own G Z' H' sg.κ v d fr
  nd : fr.Nodup
  nz : ∀ a ∈ fr, ¬ Z' a
  nw : ∀ a ∈ fr, (∃ j, a ∈ f j) ∨ H a = none
  io : ∀ j d', ios[j]? = some (some d') → ∃ k w, sg.io.getD j none = some k ∧ vs[j]? = some w ∧ Own G Z' H' k w d' (f' j)
  ind : ∀ j, (f' j).Nodup
  inz : ∀ j a, a ∈ f' j → ¬ Z' a
  inw : ∀ j a, a ∈ f' j → (∃ j, a ∈ f j) ∨ H a = none
  ap : ∀ j a, a ∈ f' j → a ∉ fr
def bsF (H : Hp) (Z : Addr → Prop) (f : Nat → List Addr) (pins : List (Nat × V)) : Bs := ⟨H, Z, fun a => ∃ j, a ∈ f j, fun _ _ => False, pins⟩
def EndF (G : GI) (sg : Sg) (H : Hp) (Z : Addr → Prop) (f : Nat → List Addr) (vs : List V) (Q : VK) (E : XK) : FRes → Prop
  | .ok d ios => ∀ v Z' H' fr f', EndOk G sg H Z f vs d ios v Z' H' fr f' → Q v H'
  | .exc c x => ∀ C dd H', XOk G (bsF H Z f []) H' c x C dd → E (.ref C) (some dd) H'
  | .bad => False
def spI (G : GI) (sg : Sg) (F : List D → FRes) : Sp := fun vs H Q E => vs.length = sg.ks.length ∧ ∃ Z ds f, ((∀ a, Z a → ∃ o, H a = some o ∧ NT o) ∧ TabO G.T H) ∧ ArgsH G Z H sg.ks vs ds f ∧ EndF G sg H Z f vs Q E (F ds)
section
variable {G : GI} {B B' : Bs} {W : WX} {lk lk' L L' La Lb : List Nat} {Z Z' : Addr → Prop} {σ σ' : St} {H H' : Hp} {Γ Γ' Γ1 Γ2 Γ3 : List Nat} {en en' : En} {fps fps' : Nat → List Addr} {κ κ' : Nat} {κs : List Nat} {v : V} {d : D} {ro : RO}
variable {X : Cx} {pos : Pos} {m ma mb : EM} {e a b : Expr}
/-! ### a def's body -/
def runF (n : Nat) (io : List (Option Nat)) (m : SM) : List D → FRes := fun ds => match m (ds.map some ++ List.replicate (n - ds.length) none) with
  | .rt d en' => .ok d (maskE io en')
  | .nx en' => .ok .non (maskE io en')
  | .exc c x => .exc c x
  | .bad => .bad
theorem start_get {N : List Str} {vs : List V} {i : Nat} {v : V} (h : vs[i]? = some v) : (L2.start N vs)[i]? = some (some v) := by
  unfold L2.start
  have hi : i < vs.length := (List.getElem?_eq_some_iff.mp h).1
  rw [List.getElem?_append_left (by simpa using hi), List.getElem?_map, h]
  rfl
theorem args_cfg {N : List Str} {ks : List Nat} {vs : List V} {ds : List D} {f : Nat → List Addr} {io : List (Option Nat)} (hl : vs.length = ks.length) (hN : ks.length ≤ N.length) (zt : (∀ a, Z a → ∃ o, H a = some o ∧ NT o) ∧ TabO G.T H) (h : ArgsH G Z H ks vs ds f) (ha : Γ = ks ++ List.replicate (N.length - ks.length) 0) :
    ∃ pins, PinIn (bsF H Z f pins) ⟨io, κ⟩ ∧ (∀ j v, vs[j]? = some v → (io.getD j none).isSome = true → (j, v) ∈ pins) ∧ Cfg G (bsF H Z f pins) [] Z (L2.start N vs) H Γ (ds.map some ++ List.replicate (N.length - ds.length) none) f := by
  have hcg : ∀ j a, a ∈ f j → ∃ o, H a = some o ∧ Chg o := fun j a m => by
    by_cases hj : j < ds.length
    · obtain ⟨v, _, o⟩ := h.own j ds[j] (List.getElem?_eq_getElem hj)
      exact o.chg a m
    · rw [h.emp j (by omega)] at m; cases m
  refine ⟨(List.range vs.length).filterMap fun j => if (io.getD j none).isSome then (vs[j]?).map fun v => (j, v) else none, fun p m => ?_, fun j v e q => ?_, ?_⟩
  · obtain ⟨j, _, e⟩ := List.mem_filterMap.mp m
    split at e
    · rename_i q
      cases e2 : vs[j]? with
      | none => rw [e2] at e; cases e
      | some v => rw [e2] at e; cases e; exact q
    · cases e
  · refine List.mem_filterMap.mpr ⟨j, List.mem_range.mpr (List.getElem?_eq_some_iff.mp e).1, ?_⟩
    rw [if_pos q, e]; rfl
  · have dsl : ds.length = vs.length := h.len.symm
    have enget : ∀ i d, (ds.map some ++ List.replicate (N.length - ds.length) none)[i]? = some (some d) → ds[i]? = some d := fun i d e => by
      by_cases hi : i < ds.length
      · rw [List.getElem?_append_left (by simpa using hi), List.getElem?_map] at e
        cases q : ds[i]? with
        | none => rw [q] at e; cases e
        | some d' => rw [q] at e; cases e; rfl
      · rw [List.getElem?_append_right (by simpa using hi), List.getElem?_replicate] at e
        split at e <;> cases e
    refine ⟨⟨fun a ⟨j, m⟩ => hcg j a m, fun _ _ z => z.elim, fun _ _ z => z.elim, zt.1, fun a z ⟨j, m⟩ => h.nz j a m z, fun _ _ _ z => z.elim⟩, ?_, fun i d e => ?_, fun i e => ?_, h.nd, h.dis, h.nz, zt.1, zt.2, fun a o e _ => .inl e, fun i a m => .inl ⟨i, m⟩, fun _ _ _ _ z => z.elim, fun _ _ z => z.elim, fun a z => z, fun a z => .inl z, fun p m => ?_⟩
    · unfold L2.start
      simp
      omega
    · have e := enget i d e
      obtain ⟨v, e2, o⟩ := h.own i d e
      refine ⟨v, start_get e2, ?_⟩
      have g : Γ.getD i 0 = ks.getD i 0 := by
        have hi : i < ks.length := by rw [← hl]; exact (List.getElem?_eq_some_iff.mp e2).1
        rw [ha, List.getD_eq_getElem?_getD, List.getD_eq_getElem?_getD, List.getElem?_append_left hi]
      rw [g]; exact o
    · by_cases hi : i < ds.length
      · refine absurd ?_ (e ds[i])
        rw [List.getElem?_append_left (by simpa using hi), List.getElem?_map, List.getElem?_eq_getElem hi]; rfl
      · exact h.emp i (by omega)
    · obtain ⟨j, _, e⟩ := List.mem_filterMap.mp m
      split at e
      · cases e2 : vs[j]? with
        | none => rw [e2] at e; cases e
        | some v => rw [e2] at e; cases e; exact start_get e2
      · cases e
/-- the end of a body -/
theorem end_ok {sg : Sg} {f : Nat → List Addr} {vs : List V} {pins : List (Nat × V)} {fr : List Addr} (hp : ∀ j v, vs[j]? = some v → (sg.io.getD j none).isSome = true → (j, v) ∈ pins) (hio : ∀ i, vs.length ≤ i → sg.io.getD i none = none) (C : Cfg G (bsF H Z f pins) [] Z' σ' H' (sg.io.map (·.getD 0)) en' fps') (hm : ∀ i d, en'[i]? = some (some d) → (sg.io.getD i none).isSome = true) (h : Held G (bsF H Z f pins) [] Z' H' fps' sg.κ v d fr) :
    EndOk G sg H Z f vs d en' v Z' H' fr fps' where
  keep := fun a o e n => C.keep a o e fun ⟨j, m⟩ => n j m
  zb := C.zb
  zn := fun a z => by
    rcases C.zn a z with y | y | ⟨_, y⟩ | y
    · exact .inl y
    · exact .inr (.inl y)
    · exact y.elim
    · exact .inr (.inr y)
  zt := C.zt
  tab := C.tab
  own := h.own.monoZ fun a z => Zl_nil.mp z
  nd := h.nd
  nz := h.nz
  nw := h.nw
  io := fun j d' e => by
    obtain ⟨w, e1, o⟩ := C.rep j d' e
    have q := hm j d' e
    obtain ⟨k, ek⟩ := Option.isSome_iff_exists.mp q
    have hj : j < vs.length := by
      by_cases hj : j < vs.length
      · exact hj
      · rw [hio j (by omega)] at ek; cases ek
    have e2 := List.getElem?_eq_getElem hj
    have pj := C.pin _ (hp j vs[j] e2 q)
    rw [e1] at pj
    cases pj
    refine ⟨k, vs[j], ek, e2, ?_⟩
    have g : (sg.io.map (·.getD 0)).getD j 0 = k := by
      rw [List.getD_eq_getElem?_getD, List.getElem?_map]
      rw [List.getD_eq_getElem?_getD] at ek
      cases q : sg.io[j]? with
      | none => rw [q] at ek; cases ek
      | some y => rw [q] at ek; simp at ek; subst ek; rfl
    rw [← g]
    exact o
  ind := C.nd
  inz := C.nz
  inw := fun j a m => by
    rcases C.newf j a m with y | y | y
    · exact .inl y
    · exact y.elim
    · exact .inr y
  ap := fun j a m m' => h.ds a m' j m
def ioShort (io : List (Option Nat)) (n : Nat) : Bool := (io.drop n).all (·.isNone)
theorem ioShort_of {io : List (Option Nat)} {n : Nat} (h : ioShort io n = true) : ∀ i, n ≤ i → io.getD i none = none := fun i hi => by
  rw [List.getD_eq_getElem?_getD]
  cases e : io[i]? with
  | none => rfl
  | some y =>
    unfold ioShort at h
    rw [List.all_eq_true] at h
    have q : (io.drop n)[i - n]? = some y := by rw [List.getElem?_drop]; rw [show n + (i - n) = i by omega]; exact e
    have := h y (List.mem_of_getElem? q)
    cases y with
    | none => rfl
    | some z => cases this
theorem wfree_of {E : XK} : WFree (fun c d _ H => E c d H) := fun _ _ _ _ _ h => h
/-- THE RULE for a def -/
theorem fn_im {P : Program} {w : World} {K : PySem.W.Frag} {mg : Str → Option Value} {base : Heap} {x qual : Str} {st : Stmt} {fa : Addr} {fd : FuncData} {N ps : List Str} {k : Nat} {sg : Sg} {m : SM} (F : Fun K x qual st fa fd) (S : FnScope N ps (defScope st)) (hlen : sg.ks.length = ps.length) (hio : ioShort sg.io sg.ks.length = true) (hNl : sg.ks.length ≤ N.length)
    (hr : roOk ⟨sg.io, sg.κ⟩ Γ' = true ∨ ∀ ds en', m ds ≠ .nx en')
    (hbody : ∀ (cdv : Value) (A : Around) (outer : List Env) (s : Shared) (H : Hp) (E : XK), A.guards = some [] → Room k (A.deeper (envOfC qual (defScope st) s.heap.objs.size fa cdv)) →
      SsI (cxOf (L2.CX P w) P w K mg base N qual (defScope st) fa cdv A outer s H E) G (fun c d _ H => E c d H) [] ⟨sg.io, sg.κ⟩ (sg.ks ++ List.replicate (N.length - sg.ks.length) 0) (defBody st) Γ' m) :
    FnG P w K mg base (L2.CX P w) (k + 1) fa fd ps (spI G sg (runF N.length sg.io m)) :=
  fnG_of F S (fun vs H Q E h => h.1.trans hlen) fun cdv A outer s H vs Q E hgd hrm ⟨hl, Z, ds, f, zt, ha, he⟩ => by
    refine ⟨_, hbody cdv A outer s H E hgd hrm, ?_⟩
    obtain ⟨pins, P1, P2, C⟩ := args_cfg (io := sg.io) (κ := sg.κ) hl hNl zt ha rfl
    refine ⟨_, Z, _, f, P1, C, ?_⟩
    unfold runF at he
    cases e : m (ds.map some ++ List.replicate (N.length - ds.length) none) with
    | bad => rw [e] at he; exact he
    | exc c x =>
      rw [e] at he
      exact fun Cc dd σ' H' y => he Cc dd H' ⟨y.cls, y.ex, y.keep, y.tab⟩
    | rt d en' =>
      rw [e] at he
      intro v σ' Z' H' fps' fp C' h'
      have C2 := C'.mask (io := sg.io) (fun i k q => by
        show (sg.io.map (·.getD 0)).getD i 0 = k
        rw [List.getD_eq_getElem?_getD, List.getElem?_map]
        rw [List.getD_eq_getElem?_getD] at q
        cases z : sg.io[i]? with
        | none => rw [z] at q; cases q
        | some y => rw [z] at q; simp at q; subst q; rfl) (fun i m => nomatch m)
      exact he _ _ _ _ _ (end_ok P2 (fun i hi => ioShort_of hio i (by omega)) C2 (fun i d q => (maskE_get q).2) (held_mask (en := en') h'))
    | nx en' =>
      rw [e] at he
      intro σ' Z' H' fps' C'
      rcases hr with hr | hr
      · have C2 := C'.mask (io := sg.io) (roOk_of hr) (fun i m => nomatch m)
        exact he _ _ _ [] _ (end_ok P2 (fun i hi => ioShort_of hio i (by omega)) C2 (fun i d q => (maskE_get q).2) ⟨.non, List.nodup_nil, (fun _ h => nomatch h), (fun _ h => nomatch h), (fun _ h => nomatch h)⟩)
      · exact absurd e (hr _ _)
/-! ### the arguments of a call -/
/-- vs at j is what the slot holds -/
def SlAt (σ : St) (sl : List (Option Nat)) (vs : List V) : Prop := ∀ (j i : Nat), sl[j]? = some (some i) → ∃ v, vs[j]? = some v ∧ σ[i]? = some (some v)
def OutC (G : GI) (B : Bs) (W : WX) (lk : List Nat) (κs : List Nat) (sl : List (Option Nat)) (L Γ' : List Nat) (σ : St) (Q : List V → Hp → Prop) : ResL → Prop
  | .ok ds en' => ∀ vs Z' H' fps' fpl, Cfg G B lk Z' σ H' Γ' en' fps' → HeldK G B L Z' H' fps' κs vs ds fpl → SlAt σ sl vs → Q vs H'
  | .exc c x => ∀ C dd H', XOk G B H' c x C dd → W (.ref C) (some dd) σ H'
  | .bad => False
def tC (G : GI) (W : WX) (lk Γ κs : List Nat) (sl : List (Option Nat)) (L Γ' : List Nat) (m : AM) : TA := fun σ H Q =>
  ∃ B Z en fps, Cfg G B lk Z σ H Γ en fps ∧ OutC G B W lk κs sl L Γ' σ Q (m en)
/-- one argument; a name given by reference says its slot -/
def OutC1 (G : GI) (B : Bs) (W : WX) (lk : List Nat) (κ : Nat) (so : Option Nat) (L Γ' : List Nat) (σ : St) (Q : VK) : Res → Prop
  | .ok d en' => ∀ v Z' H' fps' fp, Cfg G B lk Z' σ H' Γ' en' fps' → Held G B L Z' H' fps' κ v d fp → (∀ i, so = some i → σ[i]? = some (some v)) → Q v H'
  | .exc c x => ∀ C dd H', XOk G B H' c x C dd → W (.ref C) (some dd) σ H'
  | .bad => False
def tC1 (G : GI) (W : WX) (lk Γ : List Nat) (κ : Nat) (so : Option Nat) (L Γ' : List Nat) (m : EM) : TE := fun σ H Q =>
  ∃ B Z en fps, Cfg G B lk Z σ H Γ en fps ∧ OutC1 G B W lk κ so L Γ' σ Q (m en)
def C1I (X : Cx) (G : GI) (W : WX) (lk Γ : List Nat) (e : Expr) (κ : Nat) (so : Option Nat) (L Γ' : List Nat) (m : EM) : Prop := PE X e (tC1 G W lk Γ κ so L Γ' m)
theorem c1_e (h : EI X G W lk Γ e κ L Γ' m) : C1I X G W lk Γ e κ none L Γ' m := PE.imp h fun σ H Q ⟨B, Z, en, fps, C, o⟩ => by
  refine ⟨B, Z, en, fps, C, ?_⟩
  cases e : m en with
  | bad => rw [e] at o; exact o
  | exc c x => rw [e] at o; exact o
  | ok d en' => rw [e] at o; exact fun v Z' H' fps' fp C' h' => o v Z' H' fps' fp C' h' (fun _ q => nomatch q)
/-- by reference -/
theorem c1_io {i : Nat} {x : Str} (hN : X.N[i]? = some x) (hv : Vis X.env.scope x) (hk : Γ.getD i 0 = κ) (hi : i ∉ lk := by decide) (hd : (x == ("__debug__" : Str)) = false := by decide) (hcd : (x == ("__classdict__" : Str)) = false := by decide) :
    C1I X G W lk Γ (.Name x pos) κ (some i) [] Γ (mMove i) := PE.imp (pe_var hN hv hd hcd) fun σ H Q ⟨B, Z, en, fps, C, o⟩ => by
  unfold mMove at o
  split at o
  · rename_i d e
    obtain ⟨v, h1, h2⟩ := C.rep i d e
    rw [hk] at h2
    refine ⟨v, h1, o _ _ _ _ (fps i) (C.drop i hi) ⟨h2.monoZ fun a z => Zl_nil.mpr z, C.nd i, C.nz i, fun a h j h' => ?_, fun a h => ?_⟩ (fun j q => by cases q; exact h1)⟩
    · split at h'
      · cases h'
      · rename_i hj
        exact hj (C.dis j i a h' h)
    · rcases C.newf i a h with y | y | y
      · exact .inl y
      · exact absurd (C.bok.lki i a y) hi
      · exact .inr y
  · exact o.elim
theorem tC_nil {Q : List V → Hp → Prop} (h : tC G W lk Γ [] [] [] Γ mNil σ H Q) : tNil σ H Q := by
  obtain ⟨B, Z, en, fps, C, o⟩ := h
  exact o [] Z H fps [] C ⟨.nil, List.nodup_nil, (fun _ h => nomatch h), (fun _ h => nomatch h), (fun _ h => nomatch h)⟩ (fun j i h => by simp at h)
theorem tC_cons {ms : AM} {so : Option Nat} {sl : List (Option Nat)} {Q : List V → Hp → Prop} (h : tC G W lk Γ (κ :: κs) (so :: sl) (La ++ Lb) Γ2 (mCons m ms) σ H Q) :
    tCons (tC1 G W lk Γ κ so La Γ1 m) (tC G W (La ++ lk) Γ1 κs sl Lb Γ2 ms) σ H Q := by
  obtain ⟨B, Z, en, fps, C, o⟩ := h
  refine ⟨B, Z, en, fps, C, ?_⟩
  unfold mCons at o
  cases ea : m en with
  | bad => rw [ea] at o; exact o.elim
  | exc c x => rw [ea] at o; exact o
  | ok d1 en1 =>
    rw [ea] at o
    dsimp only at o
    intro v1 Z1 H1 fps1 fp1 C1 h1 s1
    refine ⟨rb H1 Z1 (La ++ lk) fps1 B.pins, Z1, en1, fps1, C1.rebase _, ?_⟩
    have hl : ∀ i ∈ lk, i ∈ La ++ lk := fun i h => List.mem_append_right _ h
    have hL : ∀ i ∈ La, i ∈ La ++ lk := fun i h => List.mem_append_left _ h
    cases eb : ms en1 with
    | bad => rw [eb] at o; exact o.elim
    | exc c x => rw [eb] at o; exact fun Cc dd H' x => o _ _ _ (x.comp C1 hl)
    | ok ds en2 =>
      rw [eb] at o
      intro vs Z2 H2 fps2 fpl C2 h2 s2
      have k1 := h1.stay C1 hl hL C2
      have k2 := HeldK.comp C1 hl h2
      have ap := held_apart C1 h1.own.chg h1.ds h2.nw
      refine o (v1 :: vs) Z2 H2 fps2 (fp1 :: fpl) (C1.comp hl C2) ⟨.cons (k1.own.monoZ fun a z => ?_) (k2.own.monoZ fun a z => ?_), ?_, fun a h => ?_, fun a h => ?_, fun a h => ?_⟩ (fun j i q => ?_)
      · exact z.elim .inl fun ⟨i, m, q⟩ => .inr ⟨i, List.mem_append_left _ m, q⟩
      · exact z.elim .inl fun ⟨i, m, q⟩ => .inr ⟨i, List.mem_append_right _ m, q⟩
      · rw [List.flatten_cons, List.nodup_append]
        exact ⟨k1.nd, k2.nd, fun x hx y hy e => ap x hx (e ▸ hy)⟩
      · rw [List.flatten_cons] at h; rcases List.mem_append.mp h with h | h
        · exact k1.nz a h
        · exact k2.nz a h
      · rw [List.flatten_cons] at h; rcases List.mem_append.mp h with h | h
        · exact k1.ds a h
        · exact k2.ds a h
      · rw [List.flatten_cons] at h; rcases List.mem_append.mp h with h | h
        · exact k1.nw a h
        · exact k2.nw a h
      · cases j with
        | zero =>
          simp only [List.getElem?_cons_zero, Option.some.injEq] at q
          exact ⟨v1, rfl, s1 i q⟩
        | succ j => simpa using s2 j i (by simpa using q)
def CI (X : Cx) (G : GI) (W : WX) (lk Γ : List Nat) (es : List Expr) (κs : List Nat) (sl : List (Option Nat)) (L Γ' : List Nat) (m : AM) : Prop := PA X es (tC G W lk Γ κs sl L Γ' m)
def KI (X : Cx) (G : GI) (W : WX) (lk Γ : List Nat) (kws : List Keyword) (κs : List Nat) (sl : List (Option Nat)) (L Γ' : List Nat) (m : AM) : Prop := PK X kws (tC G W lk Γ κs sl L Γ' m)
theorem PK.imp {kws : List Keyword} {t t' : TA} (h : PK X kws t) (i : ∀ σ H Q, t' σ H Q → t σ H Q) : PK X kws t' := ⟨fun pos pins s σ H Q I q => h.run pos pins s σ H Q I (i σ H Q q)⟩
variable {es : List Expr} {kws : List Keyword} {ms mk : AM} {so : Option Nat} {sl sk : List (Option Nat)} {κt : List Nat}
theorem ci_nil : CI X G W lk Γ [] [] [] [] Γ mNil := PA.imp pa_nil fun σ H Q h => tC_nil h
theorem ci_cons (ha : C1I X G W lk Γ e κ so La Γ1 m) (hr : CI X G W (La ++ lk) Γ1 es κs sl Lb Γ2 ms) (hs : starEach (e :: es) X.env = (false, eval e X.env) :: starEach es X.env := by rfl) :
    CI X G W lk Γ (e :: es) (κ :: κs) (so :: sl) (La ++ Lb) Γ2 (mCons m ms) := PA.imp (pa_cons ha hr hs) fun σ H Q h => tC_cons h
theorem ki_nil : KI X G W lk Γ [] [] [] [] Γ mNil := PK.imp pk_nil fun σ H Q h => tC_nil h
theorem ki_cons {nm : Option Str} {kpos : Pos} (ha : C1I X G W lk Γ e κ so La Γ1 m) (hr : KI X G W (La ++ lk) Γ1 kws κs sl Lb Γ2 ms) :
    KI X G W lk Γ (⟨nm, e, kpos⟩ :: kws) (κ :: κs) (so :: sl) (La ++ Lb) Γ2 (mCons m ms) := PK.imp (pk_cons ha hr) fun σ H Q h => tC_cons h
/-! ### binding -/
def permL {α : Type} (p : List Nat) (xs : List α) : List α := p.filterMap (xs[·]?)
theorem permL_get {α : Type} {xs : List α} : ∀ {p : List Nat} {j : Nat}, (∀ i ∈ p, i < xs.length) → (permL p xs)[j]? = (p[j]?).bind (xs[·]?)
  | [], j, _ => by simp [permL]
  | i :: p, j, h => by
    have hi := h i List.mem_cons_self
    unfold permL
    rw [List.filterMap_cons, List.getElem?_eq_getElem hi]
    cases j with
    | zero => simp [hi]
    | succ j =>
      simp only [List.getElem?_cons_succ]
      exact permL_get (p := p) fun i m => h i (List.mem_cons_of_mem _ m)
theorem permL_len {α : Type} {xs : List α} : ∀ {p : List Nat}, (∀ i ∈ p, i < xs.length) → (permL p xs).length = p.length
  | [], _ => rfl
  | i :: p, h => by
    have hi := h i List.mem_cons_self
    unfold permL
    rw [List.filterMap_cons, List.getElem?_eq_getElem hi]
    exact congrArg (· + 1) (permL_len (p := p) fun i m => h i (List.mem_cons_of_mem _ m))
theorem vals_at {vs : List V} {us : List Value} (r : Vals vs us) (i : Nat) : (vs[i]? = none ∧ us[i]? = none) ∨ ∃ v u, vs[i]? = some v ∧ us[i]? = some u ∧ RelV v u := by
  cases e : vs[i]? with
  | none =>
    refine .inl ⟨rfl, ?_⟩
    have := r.length
    rw [List.getElem?_eq_none_iff] at e ⊢
    omega
  | some v =>
    obtain ⟨u, h1, h2⟩ := r.get e
    exact .inr ⟨v, u, rfl, h1, h2⟩
theorem vals_perm {vs : List V} {us : List Value} (r : Vals vs us) : ∀ p : List Nat, Vals (permL p vs) (permL p us)
  | [] => .nil
  | i :: p => by
    unfold permL
    rw [List.filterMap_cons, List.filterMap_cons]
    rcases vals_at r i with ⟨h1, h2⟩ | ⟨v, u, h1, h2, h3⟩
    · rw [h1, h2]; exact vals_perm r p
    · rw [h1, h2]; exact .cons h3 (vals_perm r p)
/-- how a call with nu positional arguments and the keywords kn binds -/
def KB (K : PySem.W.Frag) (fd : FuncData) (ps : List Str) (nu : Nat) (kn : List Str) (p : List Nat) : Prop :=
  ∀ (s : Shared) (us ws : List Value), K.In s.heap → us.length = nu → ws.length = kn.length → BindsTo s fd ⟨us, kn.zip ws⟩ (ps.zip (permL p (us ++ ws)))
theorem kb_of {K : PySem.W.Frag} {x qual : Str} {st : Stmt} {f : Addr} {fd : FuncData} {ps kn : List Str} {nu : Nat} {p : List Nat} (F : Fun K x qual st f fd)
    (h : ∀ (kV doc pm : Value) (an : Option Addr) (cdv ct : Value) (us ws : List Value), us.length = nu → ws.length = kn.length → bindArgs (PySem.W.fnOf x qual (defArgs st) (defBody st) (defScope st) .none kV doc pm an cdv ct) ⟨us, kn.zip ws⟩ = pure (ps.zip (permL p (us ++ ws)))) : KB K fd ps nu kn p := by
  obtain ⟨oc, od, kV, doc, pm, an, cdv, ct, osl, rfl, lk, hcd⟩ := F.ex
  exact fun s us ws _ h1 h2 => .of_eq (h kV doc pm an cdv ct us ws h1 h2)
/-! ### the call -/
theorem ownK_get : ∀ {ks : List Nat} {vs : List V} {ds : List D} {fpl : List (List Addr)} {j : Nat} {d : D}, OwnK G Z H ks vs ds fpl → ds[j]? = some d → ∃ v k, vs[j]? = some v ∧ ks[j]? = some k ∧ Own G Z H k v d (fpl.getD j [])
  | _, _, _, _, j, d, .nil, e => by simp at e
  | _, _, _, _, j, d, .cons h t, e => by
    cases j with
    | zero =>
      simp only [List.getElem?_cons_zero, Option.some.injEq] at e
      subst e
      exact ⟨_, _, rfl, rfl, h⟩
    | succ j => simpa using ownK_get t (by simpa using e)
theorem ownK_fl : ∀ {ks : List Nat} {vs : List V} {ds : List D} {fpl : List (List Addr)}, OwnK G Z H ks vs ds fpl → fpl.length = ds.length
  | _, _, _, _, .nil => rfl
  | _, _, _, _, .cons h t => congrArg (· + 1) (ownK_fl t)
theorem flat_mem {fpl : List (List Addr)} {j : Nat} {a : Addr} (h : a ∈ fpl.getD j []) : a ∈ fpl.flatten := by
  rw [List.getD_eq_getElem?_getD] at h
  cases e : fpl[j]? with
  | none => rw [e] at h; cases h
  | some l => rw [e] at h; exact List.mem_flatten.mpr ⟨l, List.mem_of_getElem? e, h⟩
theorem flat_dis : ∀ {fpl : List (List Addr)} {i j : Nat} {a : Addr}, fpl.flatten.Nodup → a ∈ fpl.getD i [] → a ∈ fpl.getD j [] → i = j
  | [], i, j, a, _, h, _ => by simp at h
  | l :: fpl, i, j, a, nd, h, h' => by
    rw [List.flatten_cons] at nd
    have n := List.nodup_append.mp nd
    cases i with
    | zero =>
      cases j with
      | zero => rfl
      | succ j => exact absurd rfl (n.2.2 a (by simpa using h) a (flat_mem (j := j) (by simpa using h')))
    | succ i =>
      cases j with
      | zero => exact absurd rfl (n.2.2 a (by simpa using h') a (flat_mem (j := i) (by simpa using h)))
      | succ j => exact congrArg (· + 1) (flat_dis n.2.1 (by simpa using h) (by simpa using h'))
theorem flat_nd {fpl : List (List Addr)} {j : Nat} (nd : fpl.flatten.Nodup) : (fpl.getD j []).Nodup := by
  rw [List.getD_eq_getElem?_getD]
  cases e : fpl[j]? with
  | none => exact List.nodup_nil
  | some l =>
    have s : l.Sublist fpl.flatten := by
      have m := List.mem_of_getElem? e
      exact List.sublist_flatten_of_mem m
    exact nd.sublist s
def pf (p : List Nat) (fpl : List (List Addr)) : Nat → List Addr := fun j => match p[j]? with
  | some i => fpl.getD i []
  | none => []
theorem args_h {vs : List V} {ds : List D} {fpl : List (List Addr)} {p ks : List Nat} (h : HeldK G B L Z H fps κs vs ds fpl) (nz : ∀ a ∈ fpl.flatten, ¬ Zl Z L fps a) (hp : ∀ i ∈ p, i < κs.length) (nd : p.Nodup) (hk : permL p κs = ks) : ArgsH G (Zl Z L fps) H ks (permL p vs) (permL p ds) (pf p fpl) := by
  have hl := h.own.len
  have pd : ∀ i ∈ p, i < ds.length := fun i m => by rw [hl.2]; exact hp i m
  have pv : ∀ i ∈ p, i < vs.length := fun i m => by rw [hl.1]; exact hp i m
  refine ⟨fun j d e => ?_, by rw [permL_len pv, permL_len pd], fun j hj => ?_, fun j => ?_, fun i j a h1 h2 => ?_, fun j a m => ?_⟩
  · rw [permL_get pd] at e
    unfold pf
    cases ej : p[j]? with
    | none => rw [ej] at e; cases e
    | some i =>
      rw [ej] at e
      have e : ds[i]? = some d := e
      obtain ⟨v, k, h1, h2, o⟩ := ownK_get h.own e
      refine ⟨v, by rw [permL_get pv, ej]; exact h1, ?_⟩
      have g : ks.getD j 0 = k := by
        rw [← hk, List.getD_eq_getElem?_getD, permL_get hp, ej]
        show (κs[i]?).getD 0 = k
        rw [h2]; rfl
      rw [g]
      exact o
  · unfold pf
    rw [permL_len pd] at hj
    rw [List.getElem?_eq_none hj]
  · unfold pf
    split
    · exact flat_nd h.nd
    · exact List.nodup_nil
  · unfold pf at h1 h2
    cases ei : p[i]? with
    | none => rw [ei] at h1; cases h1
    | some i' =>
      cases ej : p[j]? with
      | none => rw [ej] at h2; cases h2
      | some j' =>
        rw [ei] at h1
        rw [ej] at h2
        have q := flat_dis h.nd h1 h2
        subst q
        have hi := (List.getElem?_eq_some_iff.mp ei).1
        exact (List.getElem?_inj hi nd).mp (ei.trans ej.symm)
  · unfold pf at m
    split at m
    · exact nz a (flat_mem m)
    · cases m
theorem pf_mem {p : List Nat} {fpl : List (List Addr)} {j : Nat} {a : Addr} (h : a ∈ pf p fpl j) : a ∈ fpl.flatten := by
  unfold pf at h
  split at h
  · exact flat_mem h
  · cases h
/-- behind a call: the frame, and what is held -/
theorem call_back {sg : Sg} {f : Nat → List Addr} {vs : List V} {ios : En} {fr : List Addr} {f' : Nat → List Addr} (C : Cfg G B lk Z σ H Γ en fps) (hc : ∀ j a, a ∈ f j → ∃ o, H a = some o ∧ Chg o) (hz : ∀ j a, a ∈ f j → ¬ Z a) (hd : ∀ j a, a ∈ f j → ∀ i, a ∉ fps i) (hw : ∀ j a, a ∈ f j → B.F a ∨ B.H a = none)
    (x : EndOk G sg H (Zl Z L fps) f vs d ios v Z' H' fr f') :
    Cfg G B lk (fun a => Z' a ∧ ∀ i, a ∉ fps i) σ H' Γ en fps ∧ Held G B L (fun a => Z' a ∧ ∀ i, a ∉ fps i) H' fps sg.κ v d fr ∧
      ∀ j k w d', Own G Z' H' k w d' (f' j) → Held G B L (fun a => Z' a ∧ ∀ i, a ∉ fps i) H' fps k w d' (f' j) := by
  have kp : ∀ a o, H a = some o → (¬ ChgT o ∨ Z a ∨ ∃ i, a ∈ fps i) → H' a = some o := fun a o e c => (x.keep a o e fun j m => by
    rcases c with c | c | ⟨i, c⟩
    · obtain ⟨o', e', c'⟩ := hc j a m
      rw [e] at e'; cases e'; exact c c'.t
    · exact hz j a m c
    · exact hd j a m i c).eq (by
    rcases c with c | c | ⟨i, c⟩
    · exact nct c
    · obtain ⟨o', e', t⟩ := C.zt a c
      rw [e] at e'; cases e'; exact t
    · obtain ⟨o', e', t⟩ := C.chg c
      rw [e] at e'; cases e'; exact t.nt)
  have low : ∀ a, Z' a → Zl (fun a => Z' a ∧ ∀ i, a ∉ fps i) L fps a := fun a z => by
    by_cases q : ∃ i, a ∈ fps i
    · obtain ⟨i, q⟩ := q
      rcases x.zn a z with (y | ⟨l, hl, y⟩) | ⟨j, y⟩ | y
      · exact absurd y (C.nz i a q)
      · exact .inr ⟨l, hl, y⟩
      · exact absurd q (hd j a y i)
      · obtain ⟨o, e, _⟩ := C.chg q
        rw [e] at y; cases y
    · exact .inl ⟨z, fun i m => q ⟨i, m⟩⟩
  have tr : ∀ a, (∃ j, a ∈ f j) ∨ H a = none → (∀ i, a ∉ fps i) ∧ (B.F a ∨ B.H a = none) := fun a h => by
    rcases h with ⟨j, m⟩ | e
    · exact ⟨hd j a m, hw j a m⟩
    · refine ⟨fun i m => ?_, C.none_of e⟩
      obtain ⟨o, e2, _⟩ := C.chg m
      rw [e] at e2; cases e2
  refine ⟨⟨C.bok, C.len, fun i d e => ?_, C.emp, C.nd, C.dis, fun i a m z => z.2 i m, fun a z => x.zt a z.1, x.tab, fun a o e n => ?_, C.newf, C.lkd, fun i a y => ?_, fun a z => ⟨x.zb a (.inl (C.zb a z)), fun i m => C.nz i a m (C.zb a z)⟩, fun a z => ?_, C.pin⟩, ⟨x.own.monoZ low, x.nd, fun a m z => x.nz a m z.1, fun a m => (tr a (x.nw a m)).1, fun a m => (tr a (x.nw a m)).2⟩, fun j k w d' o => ⟨o.monoZ low, x.ind j, fun a m z => x.inz j a m z.1, fun a m => (tr a (x.inw j a m)).1, fun a m => (tr a (x.inw j a m)).2⟩⟩
  · obtain ⟨v, h1, h2⟩ := C.rep i d e
    exact ⟨v, h1, own_keep (fun a o e n => kp a o e (.inl n)) (fun a z => ⟨⟨x.zb a (.inl z), fun i m => C.nz i a m z⟩, fun o e => kp a o e (.inr (.inl z))⟩) h2 fun a m o e => kp a o e (.inr (.inr ⟨i, m⟩))⟩
  · refine (C.keep a o e n).trans fun o1 e1 => x.keep a o1 e1 fun j m => ?_
    rcases hw j a m with y | y
    · exact n y
    · rw [e] at y; cases y
  · rcases C.lks i a y with z | z
    · exact .inl ⟨x.zb a (.inl z), fun j m => C.nz j a m z⟩
    · exact .inr z
  · rcases x.zn a z.1 with (y | ⟨i, _, y⟩) | ⟨j, y⟩ | y
    · exact C.zn a y
    · exact absurd y (z.2 i)
    · exact (hw j a y).elim (fun q => .inr (.inl q)) fun q => .inr (.inr (.inr q))
    · exact (C.none_of y).elim (fun q => .inr (.inl q)) fun q => .inr (.inr (.inr q))
theorem call_exc {f : Nat → List Addr} {c : Str} {x : D} {Cc dd : Addr} (C : Cfg G B lk Z σ H Γ en fps) (hw : ∀ j a, a ∈ f j → B.F a ∨ B.H a = none) (y : XOk G (bsF H (Zl Z L fps) f []) H' c x Cc dd) : XOk G B H' c x Cc dd := by
  obtain ⟨v, Z', e, o, zb, zn, zt⟩ := y.ex
  have fr : ∀ a, B.F a ∨ B.H a = none → B.Z a ∨ B.F a ∨ (∃ i, B.Lk i a) ∨ B.H a = none := fun a h => h.elim (fun q => .inr (.inl q)) fun q => .inr (.inr (.inr q))
  refine ⟨y.cls, ⟨v, Z', e, o, fun a z => zb a (.inl (C.zb a z)), fun a z => ?_, zt⟩, fun a o e n => (C.keep a o e n).trans fun o1 e1 => y.keep a o1 e1 fun ⟨j, m⟩ => ?_, y.tab⟩
  · rcases zn a z with (q | ⟨i, _, q⟩) | ⟨j, q⟩ | ⟨_, q⟩ | q
    · exact C.zn a q
    · rcases C.newf i a q with q | q | q
      · exact .inr (.inl q)
      · exact .inr (.inr (.inl ⟨i, q⟩))
      · exact .inr (.inr (.inr q))
    · exact fr a (hw j a q)
    · exact q.elim
    · exact fr a (C.none_of q)
  · rcases hw j a m with q | q
    · exact n q
    · rw [e] at q; cases q
def mCall (F : List D → FRes) (p : List Nat) (ms : AM) : EM := fun en => match ms en with
  | .ok ds en' => match F (permL p ds) with
    | .ok d _ => .ok d en'
    | .exc c x => .exc c x
    | .bad => .bad
  | .exc c x => .exc c x
  | .bad => .bad
/-- the slot i is given by reference for the parameter j -/
def mCallR (F : List D → FRes) (p : List Nat) (i j : Nat) (ms : AM) : EM := fun en => match ms en with
  | .ok ds en' => match F (permL p ds) with
    | .ok d ios => match ios[j]? with
      | some (some d') => .ok d (en'.set i (some d'))
      | _ => .bad
    | .exc c x => .exc c x
    | .bad => .bad
  | .exc c x => .exc c x
  | .bad => .bad
theorem call_run {sg : Sg} {F : List D → FRes} {p : List Nat} {Q : VK} (hp : ∀ i ∈ p, i < κs.length) (nd : p.Nodup) (hk : permL p κs = sg.ks) (C : Cfg G B lk Z σ H Γ en fps) (o : OutE G B W lk sg.κ L Γ' σ Q (mCall F p ms en)) :
    tC G W lk Γ κs sl L Γ' ms σ H fun vs H1 => vs.length = κs.length ∧ spI G sg F (permL p vs) H1 Q (WE W σ) := by
  refine ⟨B, Z, en, fps, C, ?_⟩
  unfold mCall at o
  cases e : ms en with
  | bad => rw [e] at o; exact o
  | exc c x => rw [e] at o; exact o
  | ok ds en' =>
    rw [e] at o
    dsimp only at o
    intro vs Z1 H1 fps1 fpl C1 h1 s1
    have nz : ∀ a ∈ fpl.flatten, ¬ Zl Z1 L fps1 a := fun a m z => z.elim (h1.nz a m) fun ⟨i, _, q⟩ => h1.ds a m i q
    have A := args_h h1 nz hp nd hk
    have hl := h1.own.len
    refine ⟨hl.1, by rw [permL_len (fun i m => by rw [hl.1]; exact hp i m), ← hk, permL_len hp], Zl Z1 L fps1, permL p ds, pf p fpl, ⟨fun a z => ?_, C1.tab⟩, A, ?_⟩
    · rcases z with z | ⟨i, _, z⟩
      · exact C1.zt a z
      · obtain ⟨o, e, t⟩ := C1.chg z
        exact ⟨o, e, t.nt⟩
    · cases ef : F (permL p ds) with
      | bad => rw [ef] at o; exact o
      | exc c x => rw [ef] at o; exact fun Cc dd H' y => o Cc dd H' (call_exc C1 (fun j a m => h1.nw a (pf_mem m)) y)
      | ok d ios =>
        rw [ef] at o
        intro v Z' H' fr f' x
        obtain ⟨D1, D2, _⟩ := call_back C1 (fun j a m => h1.own.chg a (pf_mem m)) (fun j a m => h1.nz a (pf_mem m)) (fun j a m => h1.ds a (pf_mem m)) (fun j a m => h1.nw a (pf_mem m)) x
        exact o v _ H' _ fr D1 D2
theorem call_runR {sg : Sg} {F : List D → FRes} {p : List Nat} {i j l k : Nat} {Q : VK} (hp : ∀ i ∈ p, i < κs.length) (nd : p.Nodup) (hk : permL p κs = sg.ks) (hj : p[j]? = some l) (hs : sl[l]? = some (some i)) (hio : sg.io.getD j none = some k) (hi : i ∉ lk) (hΓ : i < Γ1.length) (hΓ2 : Γ1.set i k = Γ')
    (C : Cfg G B lk Z σ H Γ en fps) (o : OutE G B W lk sg.κ [] Γ' σ Q (mCallR F p i j ms en)) :
    tC G W lk Γ κs sl [] Γ1 ms σ H fun vs H1 => vs.length = κs.length ∧ spI G sg F (permL p vs) H1 Q (WE W σ) := by
  refine ⟨B, Z, en, fps, C, ?_⟩
  unfold mCallR at o
  cases e : ms en with
  | bad => rw [e] at o; exact o
  | exc c x => rw [e] at o; exact o
  | ok ds en' =>
    rw [e] at o
    dsimp only at o
    intro vs Z1 H1 fps1 fpl C1 h1 s1
    have nz : ∀ a ∈ fpl.flatten, ¬ Zl Z1 [] fps1 a := fun a m z => z.elim (h1.nz a m) fun ⟨i, _, q⟩ => h1.ds a m i q
    have A := args_h h1 nz hp nd hk
    have hl := h1.own.len
    have pv : ∀ i ∈ p, i < vs.length := fun i m => by rw [hl.1]; exact hp i m
    refine ⟨hl.1, by rw [permL_len pv, ← hk, permL_len hp], Zl Z1 [] fps1, permL p ds, pf p fpl, ⟨fun a z => ?_, C1.tab⟩, A, ?_⟩
    · rcases z with z | ⟨i, _, z⟩
      · exact C1.zt a z
      · obtain ⟨o, e, t⟩ := C1.chg z
        exact ⟨o, e, t.nt⟩
    · cases ef : F (permL p ds) with
      | bad => rw [ef] at o; exact o
      | exc c x => rw [ef] at o; exact fun Cc dd H' y => o Cc dd H' (call_exc C1 (fun j a m => h1.nw a (pf_mem m)) y)
      | ok d ios =>
        rw [ef] at o
        dsimp only at o
        intro v Z' H' fr f' x
        obtain ⟨D1, D2, D3⟩ := call_back C1 (fun j a m => h1.own.chg a (pf_mem m)) (fun j a m => h1.nz a (pf_mem m)) (fun j a m => h1.ds a (pf_mem m)) (fun j a m => h1.nw a (pf_mem m)) x
        split at o
        · rename_i d' ej
          obtain ⟨k', w, q1, q2, q3⟩ := x.io j d' ej
          rw [hio] at q1; cases q1
          rw [permL_get pv, hj] at q2
          have q2 : vs[l]? = some w := q2
          obtain ⟨w', q4, q5⟩ := s1 l i hs
          rw [q2] at q4; cases q4
          have Hj := D3 j k w d' q3
          have E := D1.put Hj hi hΓ q5
          rw [hΓ2] at E
          refine o v _ H' _ fr E ⟨D2.own.monoZ fun a z => .inl (Zl_nil.mp z), D2.nd, D2.nz, fun a m l' m' => ?_, D2.nw⟩
          split at m'
          · split at m'
            · exact x.ap j a m' m
            · cases m'
          · exact D2.ds a m l' m'
        · exact o.elim
variable {fa : Addr} {fd : FuncData} {ps kn : List Str} {k : Nat} {x : Str} {p0 : Pos} {sg : Sg} {F : List D → FRes} {pm : List Nat} {nu : Nat}
theorem run_kb {CX : CXT} {sp : Sp} {E : St → XK} {pins : List (Addr × Obj)} {s : Shared} {Q : VK} {us ws : List Value} {vs zs : List V} (Fo : FnG X.prog X.w X.K X.mg X.base CX k fa fd ps sp) (hgd : X.A.guards = some []) (hr : Room k X.A) (hb : KB X.K fd ps nu kn pm) (hx : PassesAt CX X σ (E σ))
    (I : Inv X pins σ H s) (r : Vals vs us) (rz : Vals zs ws) (h1 : us.length = nu) (h2 : ws.length = kn.length) (h : sp (permL pm (vs ++ zs)) H Q (E σ)) : wpAny (model X.prog X.w) X.A (call (.ref fa) us (kn.zip ws)) (EP X pins σ Q) X.xe s := by
  have r2 := vals_perm (r.append rz) pm
  refine wpAny_call (codeAny_mono (Fo.run X.A X.stack s H ⟨us, kn.zip ws⟩ (permL pm (us ++ ws)) (permL pm (vs ++ zs)) Q (E σ) hgd hr I.env0 (hb s us ws I.kIn h1 h2) r2 h) fun r s' hq => ?_)
  cases r with
  | error e => exact hx pins H s e s' I hq
  | ok fl =>
    cases fl with
    | ret u => exact I.after hq
    | next => exact False.elim hq
    | brk => exact False.elim hq
    | cont => exact False.elim hq
/-- that this call's value is m' -/
def CallM (G : GI) (W : WX) (lk Γ : List Nat) (κs : List Nat) (sl : List (Option Nat)) (La Γ1 : List Nat) (ms : AM) (sg : Sg) (F : List D → FRes) (p : List Nat) (L Γ' : List Nat) (m' : EM) : Prop :=
  ∀ σ H Q, tE G W lk Γ sg.κ L Γ' m' σ H Q → tC G W lk Γ κs sl La Γ1 ms σ H fun vs H1 => vs.length = κs.length ∧ spI G sg F (permL p vs) H1 Q (WE W σ)
theorem cm_n {p : List Nat} (hp : ∀ i ∈ p, i < κs.length := by decide) (nd : p.Nodup := by decide) (hk : permL p κs = sg.ks := by decide) : CallM G W lk Γ κs sl L Γ' ms sg F p L Γ' (mCall F p ms) :=
  fun σ H Q ⟨B, Z, en, fps, C, o⟩ => call_run hp nd hk C o
theorem cm_r {p : List Nat} (i j l k : Nat) (hp : ∀ i ∈ p, i < κs.length := by decide) (nd : p.Nodup := by decide) (hk : permL p κs = sg.ks := by decide) (hj : p[j]? = some l := by decide) (hs : sl[l]? = some (some i) := by decide) (hio : sg.io.getD j none = some k := by decide) (hi : i ∉ lk := by decide) (hΓ : i < Γ1.length := by decide) (hΓ2 : Γ1.set i k = Γ' := by decide) :
    CallM G W lk Γ κs sl [] Γ1 ms sg F p [] Γ' (mCallR F p i j ms) :=
  fun σ H Q ⟨B, Z, en, fps, C, o⟩ => call_runR hp nd hk hj hs hio hi hΓ hΓ2 C o
def mApp (ms mk : AM) : AM := fun en => match ms en with
  | .ok ds en1 => match mk en1 with
    | .ok es en2 => .ok (ds ++ es) en2
    | .exc c x => .exc c x
    | .bad => .bad
  | .exc c x => .exc c x
  | .bad => .bad
theorem OwnK.app : ∀ {ks kt : List Nat} {vs ws : List V} {ds es : List D} {f g : List (List Addr)}, OwnK G Z H ks vs ds f → OwnK G Z H kt ws es g → OwnK G Z H (ks ++ kt) (vs ++ ws) (ds ++ es) (f ++ g)
  | _, _, _, _, _, _, _, _, .nil, h => h
  | _, _, _, _, _, _, _, _, .cons h t, g => .cons h (t.app g)
theorem HeldK.stay {vs : List V} {ds : List D} {fpl : List (List Addr)} (h : HeldK G B L Z H fps κs vs ds fpl) (C : Cfg G B lk Z σ H Γ en fps) (hl : ∀ i ∈ lk, i ∈ lk') (hL : ∀ i ∈ L, i ∈ lk') (D : Cfg G (rb H Z lk' fps B.pins) lk' Z' σ' H' Γ' en' fps') : HeldK G B L Z' H' fps' κs vs ds fpl := by
  obtain ⟨s1, s2, s3⟩ := stay_all C hl hL D
  obtain ⟨t1, t2⟩ := fp_stay C D hl h.own.chg h.nz h.ds
  exact ⟨ownK_keep s1 s2 h.own fun a ha o e => s3 a (h.ds a ha) o (by
    obtain ⟨o', e', t⟩ := h.own.chg a ha
    rw [e] at e'; cases e'; exact t.nt) e, h.nd, t1, t2, h.nw⟩
theorem tC_app {Q : List V → Hp → Prop} (h : tC G W lk Γ (κs ++ κt) (sl ++ sk) (La ++ Lb) Γ2 (mApp ms mk) σ H Q) (hs : sl.length = κs.length) :
    tC G W lk Γ κs sl La Γ1 ms σ H fun vs H1 => vs.length = κs.length ∧ tC G W (La ++ lk) Γ1 κt sk Lb Γ2 mk σ H1 fun zs H2 => Q (vs ++ zs) H2 := by
  obtain ⟨B, Z, en, fps, C, o⟩ := h
  refine ⟨B, Z, en, fps, C, ?_⟩
  unfold mApp at o
  cases ea : ms en with
  | bad => rw [ea] at o; exact o.elim
  | exc c x => rw [ea] at o; exact o
  | ok d1 en1 =>
    rw [ea] at o
    dsimp only at o
    intro v1 Z1 H1 fps1 fp1 C1 h1 s1
    have hlen := h1.own.len.1
    refine ⟨hlen, rb H1 Z1 (La ++ lk) fps1 B.pins, Z1, en1, fps1, C1.rebase _, ?_⟩
    have hl : ∀ i ∈ lk, i ∈ La ++ lk := fun i h => List.mem_append_right _ h
    have hL : ∀ i ∈ La, i ∈ La ++ lk := fun i h => List.mem_append_left _ h
    cases eb : mk en1 with
    | bad => rw [eb] at o; exact o.elim
    | exc c x => rw [eb] at o; exact fun Cc dd H' x => o _ _ _ (x.comp C1 hl)
    | ok ds en2 =>
      rw [eb] at o
      intro vs Z2 H2 fps2 fpl C2 h2 s2
      have k1 := h1.stay C1 hl hL C2
      have k2 := HeldK.comp C1 hl h2
      have ap := held_apart C1 h1.own.chg h1.ds h2.nw
      refine o (v1 ++ vs) Z2 H2 fps2 (fp1 ++ fpl) (C1.comp hl C2) ⟨(k1.own.monoZ fun a z => ?_).app (k2.own.monoZ fun a z => ?_), ?_, fun a h => ?_, fun a h => ?_, fun a h => ?_⟩ (fun j i q => ?_)
      · exact z.elim .inl fun ⟨i, m, q⟩ => .inr ⟨i, List.mem_append_left _ m, q⟩
      · exact z.elim .inl fun ⟨i, m, q⟩ => .inr ⟨i, List.mem_append_right _ m, q⟩
      · rw [List.flatten_append, List.nodup_append]
        exact ⟨k1.nd, k2.nd, fun x hx y hy e => ap x hx (e ▸ hy)⟩
      · rw [List.flatten_append] at h; rcases List.mem_append.mp h with h | h
        · exact k1.nz a h
        · exact k2.nz a h
      · rw [List.flatten_append] at h; rcases List.mem_append.mp h with h | h
        · exact k1.ds a h
        · exact k2.ds a h
      · rw [List.flatten_append] at h; rcases List.mem_append.mp h with h | h
        · exact k1.nw a h
        · exact k2.nw a h
      · by_cases hj : j < sl.length
        · rw [List.getElem?_append_left hj] at q
          obtain ⟨v, e1, e2⟩ := s1 j i q
          exact ⟨v, by rw [List.getElem?_append_left (by omega)]; exact e1, e2⟩
        · rw [List.getElem?_append_right (by omega)] at q
          obtain ⟨v, e1, e2⟩ := s2 _ i q
          exact ⟨v, by rw [List.getElem?_append_right (by omega), hlen, ← hs]; exact e1, e2⟩
variable {L' : List Nat} {m' : EM}
/-- f(e, ..) -/
theorem ei_call (Fo : FnG X.prog X.w X.K X.mg X.base (L2.CX X.prog X.w) k fa fd ps (spI G sg F)) (hgd : X.A.guards = some []) (hr : Room k X.A) (hg : Gl X x) (hm : X.mg x = some (.ref fa)) (hk : PySem.W.keepIn X.K (.ref fa) = true) (hb : KB X.K fd ps nu [] pm) (tk : Takes X W) (ha : CI X G W lk Γ (e :: es) κs sl La Γ1 ms) (hc : CallM G W lk Γ κs sl La Γ1 ms sg F pm L Γ' m') (hn : κs.length = nu := by rfl)
    (hdb : (x == ("__debug__" : Str)) = false := by decide) (he : starEach (e :: es) X.env = (false, eval e X.env) :: starEach es X.env := by rfl) (hpl : (backTo pos (starEach es X.env)).any (·.1) = false := by rfl) :
    EI X G W lk Γ (.Call (.Name x p0) (e :: es) [] pos) sg.κ L Γ' m' := by
  refine ⟨fun pins s σ H Q I h => ?_⟩
  refine wpAny_Call_Name_kw (ld_glob I hg hm ?_ hdb)
  refine PySem.W.callWith_K (h₀ := X.base) I.ok.mod.kin hk (thn (ha.run pos pins s σ H _ I (hc σ H Q h)) fun us s1 ⟨vs, H1, I1, r, hl, q⟩ => ⟨I1.kIn, ?_⟩) he hpl
  exact run_kb (kn := []) (zs := []) (ws := []) (E := WE W) Fo hgd hr hb (passAt tk σ) I1 r .nil (by show us.length = nu; rw [← r.length, hl, hn]) rfl (by rw [List.append_nil]; exact q)
/-- f() -/
theorem ei_call0 (Fo : FnG X.prog X.w X.K X.mg X.base (L2.CX X.prog X.w) k fa fd ps (spI G sg F)) (hgd : X.A.guards = some []) (hr : Room k X.A) (hg : Gl X x) (hm : X.mg x = some (.ref fa)) (hk : PySem.W.keepIn X.K (.ref fa) = true) (hb : KB X.K fd ps 0 [] pm) (tk : Takes X W) (hc : CallM G W lk Γ [] [] [] Γ mNil sg F pm L Γ' m')
    (hdb : (x == ("__debug__" : Str)) = false := by decide) :
    EI X G W lk Γ (.Call (.Name x p0) [] [] pos) sg.κ L Γ' m' := by
  refine ⟨fun pins s σ H Q I h => ?_⟩
  refine wpAny_Call_Name_kw (ld_glob I hg hm ?_ hdb)
  have q := tC_nil (hc σ H Q h)
  exact PySem.W.callWith_K0 I.kIn hk (run_kb (us := []) (vs := []) (kn := []) (zs := []) (ws := []) (E := WE W) Fo hgd hr hb (passAt tk σ) I .nil .nil rfl rfl q.2)
/-- f(e, .., k = v, ..) -/
theorem ei_callK (Fo : FnG X.prog X.w X.K X.mg X.base (L2.CX X.prog X.w) k fa fd ps (spI G sg F)) (hgd : X.A.guards = some []) (hr : Room k X.A) (hg : Gl X x) (hm : X.mg x = some (.ref fa)) (hk : PySem.W.keepIn X.K (.ref fa) = true) (hb : KB X.K fd ps nu kn pm) (tk : Takes X W) (ha : CI X G W lk Γ (e :: es) κs sl La Γ1 ms) (hkw : KI X G W (La ++ lk) Γ1 kws κt sk Lb Γ2 mk) (hc : CallM G W lk Γ (κs ++ κt) (sl ++ sk) (La ++ Lb) Γ2 (mApp ms mk) sg F pm L Γ' m') (hn : κs.length = nu := by rfl) (hn2 : κt.length = kn.length := by rfl) (hn3 : sl.length = κs.length := by rfl)
    (hall : (backToKw pos (keywordEach kws X.env)).all (·.1.isSome) = true := by rfl) (hks : (backToKw pos (keywordEach kws X.env)).filterMap (·.1) = kn := by rfl)
    (hdb : (x == ("__debug__" : Str)) = false := by decide) (he : starEach (e :: es) X.env = (false, eval e X.env) :: starEach es X.env := by rfl)
    (hpl : ((backTo pos (starEach (e :: es) X.env)).any (·.1) || (backToKw pos (keywordEach kws X.env)).any (·.1.isNone)) = false := by rfl) :
    EI X G W lk Γ (.Call (.Name x p0) (e :: es) kws pos) sg.κ L Γ' m' := by
  refine ⟨fun pins s σ H Q I h => ?_⟩
  refine wpAny_Call_Name_kw (ld_glob I hg hm ?_ hdb)
  refine PySem.W.callWith_KW (h₀ := X.base) I.ok.mod.kin hk hall (thn (ha.run pos pins s σ H _ I (tC_app (hc σ H Q h) hn3)) fun us s1 ⟨vs, H1, I1, r, hl, q⟩ => ?_) hpl he
  refine thn (hkw.run pos pins s1 σ H1 _ I1 q) fun ws s2 ⟨zs, H2, I2, rz, hl2, q2⟩ => ⟨I2.kIn, ?_⟩
  rw [hks]
  rw [List.length_append, List.length_append, hl] at hl2
  exact run_kb (E := WE W) Fo hgd hr hb (passAt tk σ) I2 r rz (by show us.length = nu; rw [← r.length, hl, hn]) (by rw [← rz.length]; omega) q2
/-- f(k = v, ..) -/
theorem ei_callK0 (Fo : FnG X.prog X.w X.K X.mg X.base (L2.CX X.prog X.w) k fa fd ps (spI G sg F)) (hgd : X.A.guards = some []) (hr : Room k X.A) (hg : Gl X x) (hm : X.mg x = some (.ref fa)) (hk : PySem.W.keepIn X.K (.ref fa) = true) (hb : KB X.K fd ps 0 kn pm) (tk : Takes X W) (hkw : KI X G W lk Γ kws κt sk Lb Γ2 mk) (hc : CallM G W lk Γ κt sk Lb Γ2 mk sg F pm L Γ' m') (hn2 : κt.length = kn.length := by rfl)
    (hall : (backToKw pos (keywordEach kws X.env)).all (·.1.isSome) = true := by rfl) (hks : (backToKw pos (keywordEach kws X.env)).filterMap (·.1) = kn := by rfl)
    (hdb : (x == ("__debug__" : Str)) = false := by decide)
    (hpl : ((backTo pos (starEach [] X.env)).any (·.1) || (backToKw pos (keywordEach kws X.env)).any (·.1.isNone)) = false := by rfl) :
    EI X G W lk Γ (.Call (.Name x p0) [] kws pos) sg.κ L Γ' m' := by
  refine ⟨fun pins s σ H Q I h => ?_⟩
  refine wpAny_Call_Name_kw (ld_glob I hg hm ?_ hdb)
  refine PySem.W.callWith_KW0 (h₀ := X.base) I.ok.mod.kin hk hall ?_ hpl
  refine thn (hkw.run pos pins s σ H _ I (hc σ H Q h)) fun ws s2 ⟨zs, H2, I2, rz, hl2, q2⟩ => ⟨I2.kIn, ?_⟩
  rw [hks]
  exact run_kb (us := []) (vs := []) (E := WE W) Fo hgd hr hb (passAt tk σ) I2 .nil rz rfl (by rw [← rz.length]; omega) q2
end
end Im
/-! Lists that are changed: append, pop, store. -/
namespace Im
open PySem PySem.Spec PyProof.Rows L2
section
variable {G : GI} {B B' : Bs} {W : WX} {lk lk' L L' La Lb : List Nat} {Z Z' : Addr → Prop} {σ σ' : St} {H H' : Hp} {Γ Γ' Γ1 Γ2 Γ3 : List Nat} {en en' : En} {fps fps' : Nat → List Addr} {κ κ' k : Nat} {κs : List Nat} {v : V} {d : D} {ro : RO}
variable {X : Cx} {pos : Pos} {m ma mb : EM} {e a b : Expr}
theorem OwnL.split : ∀ {vs : List V} {ds : List D} {fp : List Addr} {j : Nat} {d : D}, OwnL G Z H k vs ds fp → ds[j]? = some d → ∃ v f1 f2 f3, vs[j]? = some v ∧ fp = f1 ++ (f2 ++ f3) ∧ OwnL G Z H k (vs.take j) (ds.take j) f1 ∧ Own G Z H k v d f2 ∧ OwnL G Z H k (vs.drop (j + 1)) (ds.drop (j + 1)) f3 := by
  intro vs
  induction vs with
  | nil => intro ds fp j d h e; cases h; simp at e
  | cons v vs ih =>
    intro ds fp j d h e
    cases h with
    | cons h1 h2 =>
      cases j with
      | zero =>
        simp only [List.getElem?_cons_zero, Option.some.injEq] at e
        subst e
        exact ⟨v, [], _, _, rfl, rfl, .nil, h1, h2⟩
      | succ j =>
        obtain ⟨w, f1, f2, f3, q1, rfl, q3, q4, q5⟩ := ih h2 (by simpa using e)
        exact ⟨w, _ ++ f1, f2, f3, by simpa using q1, by rw [List.append_assoc], .cons h1 q3, q4, q5⟩
theorem Cfg.mut {i : Nat} {a : Addr} {vs' : List V} {ds' : List D} {fp1 fp2 : List Addr} (C : Cfg G B lk Z σ H Γ en fps) (hv : σ[i]? = some (some (.ref a))) (hk : Γ.getD i 0 = k + 1) (hf : fps i = a :: fp1) (ho : ∃ vs, H a = some (.lst vs)) (hi : i ∉ lk)
    (own : OwnL G Z H k vs' ds' fp2) (nd : fp2.Nodup) (na : a ∉ fp2) (nz : ∀ b ∈ fp2, ¬ Z b) (ds : ∀ b ∈ fp2, ∀ j, j ≠ i → b ∉ fps j) (nw : ∀ b ∈ fp2, B.F b ∨ B.H b = none) :
    Cfg G B lk Z σ (upd H a (.lst vs')) Γ (en.set i (some (.lst ds'))) (fun j => if j = i then a :: fp2 else fps j) := by
  have ai : a ∈ fps i := by rw [hf]; exact List.mem_cons_self
  obtain ⟨vs, ho⟩ := ho
  have hil : i < en.length := by
    obtain ⟨d, _, e, _⟩ := C.fin ai
    exact (List.getElem?_eq_some_iff.mp e).1
  have az : ¬ Z a := C.nz i a ai
  have keepI : StayI H (upd H a (.lst vs')) := fun b o q n => upd_at q fun z => by subst z; rw [ho] at q; cases q; exact n trivial
  have keepZ : ∀ b, Z b → Z b ∧ ∀ o, H b = some o → upd H a (.lst vs') b = some o := fun b z => ⟨z, fun o q => upd_at q fun (y : b = a) => az (y ▸ z)⟩
  have an : B.F a ∨ B.H a = none := by
    rcases C.newf i a ai with y | y | y
    · exact .inl y
    · exact absurd (C.bok.lki i a y) hi
    · exact .inr y
  exact {
    bok := C.bok
    len := by rw [List.length_set]; exact C.len
    rep := fun j d e => by
      by_cases hj : j = i
      · subst hj
        rw [List.getElem?_set_self hil] at e
        cases e
        refine ⟨.ref a, hv, ?_⟩
        rw [if_pos rfl, hk]
        exact .own upd_same (ownL_keep keepI keepZ own fun b m o q => upd_at q fun (y : b = a) => na (y ▸ m))
      · rw [List.getElem?_set_ne (Ne.symm hj)] at e
        obtain ⟨v, h1, h2⟩ := C.rep j d e
        refine ⟨v, h1, ?_⟩
        rw [if_neg hj]
        exact own_keep keepI keepZ h2 fun b m o q => upd_at q fun (y : b = a) => hj (C.dis j i a (y ▸ m) ai)
    emp := fun j e => by
      by_cases hj : j = i
      · subst hj
        exact absurd (List.getElem?_set_self hil) (e (.lst ds'))
      · rw [if_neg hj]
        exact C.emp j fun d q => e d (by rw [List.getElem?_set_ne (Ne.symm hj)]; exact q)
    nd := fun j => by
      by_cases hj : j = i
      · rw [if_pos hj]; exact List.nodup_cons.mpr ⟨na, nd⟩
      · rw [if_neg hj]; exact C.nd j
    dis := fun j l b h h' => by
      by_cases hj : j = i
      · rw [if_pos hj] at h
        by_cases hl : l = i
        · rw [hj, hl]
        · rw [if_neg hl] at h'
          rcases List.mem_cons.mp h with rfl | h
          · exact absurd (C.dis l i _ h' ai) hl
          · exact absurd h' (ds b h l hl)
      · rw [if_neg hj] at h
        by_cases hl : l = i
        · rw [if_pos hl] at h'
          rcases List.mem_cons.mp h' with rfl | h'
          · exact absurd (C.dis j i _ h ai) hj
          · exact absurd h (ds b h' j hj)
        · rw [if_neg hl] at h'
          exact C.dis j l b h h'
    nz := fun j b h => by
      split at h
      · rcases List.mem_cons.mp h with rfl | h
        · exact az
        · exact nz b h
      · exact C.nz j b h
    zt := fun b z => by
      obtain ⟨o, q, t⟩ := C.zt b z
      exact ⟨o, upd_at q fun (y : b = a) => az (y ▸ z), t⟩
    tab := tabs_upd C.tab ho trivial (fun _ z => nomatch z)
    keep := fun b o q n => by
      rw [upd_ne fun (y : b = a) => by
        subst y
        rcases an with y | y
        · exact n y
        · rw [q] at y; cases y]
      exact C.keep b o q n
    newf := fun j b h => by
      split at h
      · rcases List.mem_cons.mp h with rfl | h
        · exact an.elim .inl fun y => .inr (.inr y)
        · exact (nw b h).elim .inl fun y => .inr (.inr y)
      · exact C.newf j b h
    lkd := fun j l b h y => by
      have hl : l ≠ i := fun q => hi (q ▸ C.bok.lki l b y)
      split at h
      · rename_i hj
        rcases List.mem_cons.mp h with rfl | h
        · rw [hj]; exact C.lkd i l _ ai y
        · rcases C.lks l b y with z | z
          · exact absurd z (nz b h)
          · exact absurd z (ds b h l hl)
      · exact C.lkd j l b h y
    lks := fun j b y => by
      have hj : j ≠ i := fun q => hi (q ▸ C.bok.lki j b y)
      rw [if_neg hj]
      exact C.lks j b y
    zb := C.zb
    zn := C.zn
    pin := C.pin }
/-- the list that the slot i owns -/
theorem Cfg.lst_at {i : Nat} {ds : List D} (C : Cfg G B lk Z σ H Γ en fps) (hk : Γ.getD i 0 = k + 1) (e : en[i]? = some (some (.lst ds))) : ∃ a vs fp, σ[i]? = some (some (.ref a)) ∧ H a = some (.lst vs) ∧ OwnL G Z H k vs ds fp ∧ fps i = a :: fp := by
  obtain ⟨v, h1, h2⟩ := C.rep i _ e
  rw [hk] at h2
  obtain ⟨a, vs, fp, rfl, h3, h4, h5⟩ := own_lstS h2
  exact ⟨a, vs, fp, h1, h3, h4, h5⟩
def atL (i : Nat) (en : En) : Option (List D) := match en[i]? with
  | some (some (.lst ds)) => some ds
  | _ => none
theorem atL_of {i : Nat} {ds : List D} (h : atL i en = some ds) : en[i]? = some (some (.lst ds)) := by
  unfold atL at h
  split at h
  · rename_i q; cases h; exact q
  · cases h
def mAppend (i : Nat) (m : EM) : EM := fun en => match atL i en with
  | some _ => match m en with
    | .ok d en2 => match atL i en2 with
      | some ds => if ds.length < lim then .ok .non (en2.set i (some (.lst (ds ++ [d])))) else .bad
      | none => .bad
    | .exc c x => .exc c x
    | .bad => .bad
  | none => .bad
theorem ei_append {i : Nat} {x : Str} {p apos : Pos} (hN : X.N[i]? = some x) (hv : Vis X.env.scope x) (hk : Γ.getD i 0 = κ + 1) (hk1 : Γ1.getD i 0 = κ + 1) (he : EI X G W lk Γ e κ [] Γ1 m) (hi : i ∉ lk := by decide) (hd : (x == ("__debug__" : Str)) = false := by decide) (hcd : (x == ("__classdict__" : Str)) = false := by decide)
    (hbase : attributeBase (.Name x p) "append" X.env (eval (.Name x p) X.env) = eval (.Name x p) X.env := by rfl)
    (hfew : ((backTo pos (starEach (e :: []) X.env)).all (fun x => !x.1) && (backToKw pos (keywordEach [] X.env)).all (fun x => x.1.isSome)
      && decide ((e :: ([] : List Expr)).length + ([] : List Keyword).length + (if ([] : List Keyword).isEmpty then 0 else 1) < 30)) = true := by rfl)
    (hline : (apos.endLine == pos.line) = true := by rfl) (hs : starEach (e :: []) X.env = (false, eval e X.env) :: starEach [] X.env := by rfl) :
    EI X G W lk Γ (.Call (.Attribute (.Name x p) "append" apos) [e] [] pos) κ' [] Γ1 (mAppend i m) :=
  PE.imp (pe_bm PySem.F.plainAttrs_list PySem.F.slot_list_append PySem.F.type_list_append mt_append (pe_var hN hv hd hcd) (pa_cons he pa_nil hs) hbase hfew hline hs rfl) fun σ H Q ⟨B, Z, en, fps, C, o⟩ => by
    unfold mAppend at o
    cases e0 : atL i en with
    | none => rw [e0] at o; exact o.elim
    | some ds0 =>
      rw [e0] at o
      obtain ⟨a, vs0, fp0, s1, s2, s3, s4⟩ := C.lst_at hk (atL_of e0)
      refine ⟨.ref a, s1, .inl ⟨rfl, vs0, .inl (.of s2)⟩, B, Z, en, fps, C, ?_⟩
      dsimp only at o
      cases em : m en with
      | bad => rw [em] at o; exact o
      | exc c x => rw [em] at o; exact o
      | ok d en2 =>
        rw [em] at o
        dsimp only at o
        intro y Z2 H2 fps2 fpy C2 hy
        cases e2 : atL i en2 with
        | none => rw [e2] at o; exact o.elim
        | some ds =>
          rw [e2] at o
          dsimp only at o
          split at o
          · rename_i hl
            obtain ⟨a', vs, fp, t1, t2, t3, t4⟩ := C2.lst_at hk1 (atL_of e2)
            rw [s1] at t1; cases t1
            have hyO : OwnL G Z2 H2 κ [y] [d] fpy := by
              have q := OwnL.cons (hy.own.monoZ fun a z => Zl_nil.mp z) (OwnL.nil (G := G) (Z := Z2) (H := H2) (k := κ))
              rwa [List.append_nil] at q
            have nd := C2.nd i
            rw [t4] at nd
            have nd' := List.nodup_cons.mp nd
            have mi : ∀ b, b ∈ a :: fp → b ∈ fps2 i := fun b m => t4 ▸ m
            have dy : ∀ b ∈ fpy, ∀ j, b ∉ fps2 j := hy.ds
            have C3 := C2.mut s1 hk1 t4 ⟨vs, t2⟩ hi (t3.append hyO) (List.nodup_append.mpr ⟨nd'.2, hy.nd, fun x hx z hz q => dy z hz i (mi z (List.mem_cons_of_mem _ (q ▸ hx)))⟩)
              (fun q => (List.mem_append.mp q).elim nd'.1 fun q => dy a q i (mi a List.mem_cons_self))
              (fun b m => (List.mem_append.mp m).elim (fun m => C2.nz i b (mi b (List.mem_cons_of_mem _ m))) (hy.nz b))
              (fun b m j hj => (List.mem_append.mp m).elim (fun m q => hj (C2.dis j i b q (mi b (List.mem_cons_of_mem _ m)))) fun m => dy b m j)
              (fun b m => (List.mem_append.mp m).elim (fun m => by
                rcases C2.newf i b (mi b (List.mem_cons_of_mem _ m)) with z | z | z
                · exact .inl z
                · exact absurd (C2.bok.lki i b z) hi
                · exact .inr z) (hy.nw b))
            exact ⟨a, vs, y, rfl, rfl, t2, by rw [t3.len]; exact Nat.lt_of_lt_of_le hl (by decide), o _ _ _ _ [] C3 (.sc .non)⟩
          · exact o.elim
/-- an item taken out -/
theorem Cfg.take_out {i j : Nat} {ds : List D} {d : D} (C : Cfg G B lk Z σ H Γ en fps) (hk : Γ.getD i 0 = k + 1) (e : en[i]? = some (some (.lst ds))) (hj : ds[j]? = some d) (hi : i ∉ lk) :
    ∃ a vs y fp2 f2, σ[i]? = some (some (.ref a)) ∧ H a = some (.lst vs) ∧ vs[j]? = some y ∧ vs.length = ds.length ∧
      Cfg G B lk Z σ (upd H a (.lst (vs.eraseIdx j))) Γ (en.set i (some (.lst (ds.eraseIdx j)))) (fun l => if l = i then a :: fp2 else fps l) ∧
      Held G B [] Z (upd H a (.lst (vs.eraseIdx j))) (fun l => if l = i then a :: fp2 else fps l) k y d f2 := by
  obtain ⟨a, vs, fp, t1, t2, t3, t4⟩ := C.lst_at hk e
  obtain ⟨y, f1, f2, f3, q1, q2, q3, q4, q5⟩ := t3.split hj
  have nd := C.nd i
  rw [t4, q2] at nd
  have nd' := List.nodup_cons.mp nd
  have n1 := List.nodup_append.mp nd'.2
  have n2 := List.nodup_append.mp n1.2.1
  have mi : ∀ b, b ∈ a :: (f1 ++ (f2 ++ f3)) → b ∈ fps i := fun b m => by rw [t4, q2]; exact m
  have m13 : ∀ b, b ∈ f1 ++ f3 → b ∈ a :: (f1 ++ (f2 ++ f3)) := fun b m => List.mem_cons_of_mem _ ((List.mem_append.mp m).elim (fun m => List.mem_append_left _ m) fun m => List.mem_append_right _ (List.mem_append_right _ m))
  have m2 : ∀ b, b ∈ f2 → b ∈ a :: (f1 ++ (f2 ++ f3)) := fun b m => List.mem_cons_of_mem _ (List.mem_append_right _ (List.mem_append_left _ m))
  have nw : ∀ b, b ∈ fps i → B.F b ∨ B.H b = none := fun b m => by
    rcases C.newf i b m with z | z | z
    · exact .inl z
    · exact absurd (C.bok.lki i b z) hi
    · exact .inr z
  have C3 := C.mut t1 hk t4 ⟨vs, t2⟩ hi (vs' := vs.eraseIdx j) (ds' := ds.eraseIdx j) (fp2 := f1 ++ f3) (by rw [List.eraseIdx_eq_take_drop_succ, List.eraseIdx_eq_take_drop_succ]; exact q3.append q5)
    (List.nodup_append.mpr ⟨n1.1, n2.2.1, fun x hx z hz => n1.2.2 x hx z (List.mem_append_right _ hz)⟩) (fun m => nd'.1 ((List.mem_cons.mp (m13 a m)).elim (fun _ => by
      rcases List.mem_append.mp m with m | m
      · exact List.mem_append_left _ m
      · exact List.mem_append_right _ (List.mem_append_right _ m)) id))
    (fun b m => C.nz i b (mi b (m13 b m))) (fun b m l hl q => hl (C.dis l i b q (mi b (m13 b m)))) (fun b m => nw b (mi b (m13 b m)))
  refine ⟨a, vs, y, f1 ++ f3, f2, t1, t2, q1, t3.len, C3, ?_⟩
  have a2 : a ∉ f2 := fun m => nd'.1 (List.mem_append_right _ (List.mem_append_left _ m))
  refine ⟨own_keep (fun b o q n => upd_at q fun z => by subst z; rw [t2] at q; cases q; exact n trivial) (fun b z => ⟨Zl_nil.mpr z, fun o q => upd_at q fun (w : b = a) => C.nz i a (mi a List.mem_cons_self) (w ▸ z)⟩) q4 fun b m o q => upd_at q fun (w : b = a) => a2 (w ▸ m), n2.1, fun b m => C.nz i b (mi b (m2 b m)), fun b m l q => ?_, fun b m => nw b (mi b (m2 b m))⟩
  split at q
  · rcases List.mem_cons.mp q with rfl | q
    · exact a2 m
    · rcases List.mem_append.mp q with q | q
      · exact n1.2.2 b q b (List.mem_append_left _ m) rfl
      · exact n2.2.2 b m b q rfl
  · rename_i hl
    exact hl (C.dis l i b q (mi b (m2 b m)))
def mPop (i : Nat) : EM := fun en => match atL i en with
  | some ds => match ds[ds.length - 1]? with
    | some d => .ok d (en.set i (some (.lst (ds.eraseIdx (ds.length - 1)))))
    | none => .bad
  | none => .bad
theorem ei_pop {i : Nat} {x : Str} {p apos : Pos} (hN : X.N[i]? = some x) (hv : Vis X.env.scope x) (hk : Γ.getD i 0 = κ + 1) (hi : i ∉ lk := by decide) (hd : (x == ("__debug__" : Str)) = false := by decide) (hcd : (x == ("__classdict__" : Str)) = false := by decide)
    (hbase : attributeBase (.Name x p) "pop" X.env (eval (.Name x p) X.env) = eval (.Name x p) X.env := by rfl) (hline : (apos.endLine == pos.line) = true := by rfl) :
    EI X G W lk Γ (.Call (.Attribute (.Name x p) "pop" apos) [] [] pos) κ [] Γ (mPop i) :=
  PE.imp (pe_bm0 PySem.F.plainAttrs_list PySem.F.slot_list_pop PySem.F.type_list_pop mt_pop (pe_var hN hv hd hcd) hbase hline) fun σ H Q ⟨B, Z, en, fps, C, o⟩ => by
    unfold mPop at o
    cases e0 : atL i en with
    | none => rw [e0] at o; exact o.elim
    | some ds =>
      rw [e0] at o
      dsimp only at o
      cases ej : ds[ds.length - 1]? with
      | none => rw [ej] at o; exact o.elim
      | some d =>
        rw [ej] at o
        obtain ⟨a, vs, y, fp2, f2, t1, t2, t3, t4, C3, h3⟩ := C.take_out hk (atL_of e0) ej hi
        refine ⟨.ref a, t1, .inl ⟨rfl, vs, .inl (.of t2)⟩, a, vs, y, rfl, rfl, t2, by rw [t4]; exact t3, ?_⟩
        have q := o y _ _ _ f2 C3 h3
        have e : vs.eraseIdx (ds.length - 1) = vs.dropLast := by
          rw [← t4, List.eraseIdx_eq_take_drop_succ, List.dropLast_eq_take]
          rw [List.drop_eq_nil_of_le (by omega), List.append_nil]
        rw [e] at q
        exact q
def mPopAt (i : Nat) (m : EM) : EM := fun en => match atL i en with
  | some _ => match m en with
    | .ok (.int j) en2 => match atL i en2 with
      | some ds => match ixN ds.length j with
        | some n => match ds[n]? with
          | some d => if ds.length ≤ lim then .ok d (en2.set i (some (.lst (ds.eraseIdx n)))) else .bad
          | none => .bad
        | none => .bad
      | none => .bad
    | .ok _ _ => .bad
    | .exc c x => .exc c x
    | .bad => .bad
  | none => .bad
theorem ixN_bd {n : Nat} {j : Int} {i : Nat} (h : ixN n j = some i) (hn : n ≤ sizeLine) : -(2 ^ 63) ≤ j ∧ j < 2 ^ 63 ∧ seqIndex? j n = some i := by
  obtain ⟨h1, h2, h3, h4⟩ := ixN_seq h
  have hs : sizeLine = 16777216 := sizeLine_eq
  exact ⟨by omega, by omega, h1⟩
theorem ei_popAt {i : Nat} {x : Str} {p apos : Pos} {md : Md} (hN : X.N[i]? = some x) (hv : Vis X.env.scope x) (hk : Γ.getD i 0 = κ + 1) (hk1 : Γ1.getD i 0 = κ + 1) (he : OI X G W lk Γ e md Γ1 m) (hi : i ∉ lk := by decide) (hd : (x == ("__debug__" : Str)) = false := by decide) (hcd : (x == ("__classdict__" : Str)) = false := by decide)
    (hbase : attributeBase (.Name x p) "pop" X.env (eval (.Name x p) X.env) = eval (.Name x p) X.env := by rfl)
    (hfew : ((backTo pos (starEach (e :: []) X.env)).all (fun x => !x.1) && (backToKw pos (keywordEach [] X.env)).all (fun x => x.1.isSome)
      && decide ((e :: ([] : List Expr)).length + ([] : List Keyword).length + (if ([] : List Keyword).isEmpty then 0 else 1) < 30)) = true := by rfl)
    (hline : (apos.endLine == pos.line) = true := by rfl) (hs : starEach (e :: []) X.env = (false, eval e X.env) :: starEach [] X.env := by rfl) :
    EI X G W lk Γ (.Call (.Attribute (.Name x p) "pop" apos) [e] [] pos) κ [] Γ1 (mPopAt i m) :=
  PE.imp (pe_bm PySem.F.plainAttrs_list PySem.F.slot_list_pop PySem.F.type_list_pop mt_popAt (pe_var hN hv hd hcd) (pa_cons he pa_nil hs) hbase hfew hline hs rfl) fun σ H Q ⟨B, Z, en, fps, C, o⟩ => by
    unfold mPopAt at o
    cases e0 : atL i en with
    | none => rw [e0] at o; exact o.elim
    | some ds0 =>
      rw [e0] at o
      obtain ⟨a, vs0, fp0, s1, s2, s3, s4⟩ := C.lst_at hk (atL_of e0)
      refine ⟨.ref a, s1, .inl ⟨rfl, vs0, .inl (.of s2)⟩, B, Z, en, fps, C, ?_⟩
      dsimp only at o
      cases em : m en with
      | bad => rw [em] at o; exact o
      | exc c x => rw [em] at o; exact o
      | ok dj en2 =>
        rw [em] at o
        cases dj with
        | int j =>
          dsimp only at o
          intro y Z2 H2 fps2 C2 hy
          obtain ⟨_, _, _, qy⟩ := Md.any hy
          have ey := own_int qy
          subst ey
          cases e2 : atL i en2 with
          | none => rw [e2] at o; exact o.elim
          | some ds =>
            rw [e2] at o
            dsimp only at o
            cases en_ : ixN ds.length j with
            | none => rw [en_] at o; exact o.elim
            | some n =>
              rw [en_] at o
              dsimp only at o
              cases ed : ds[n]? with
              | none => rw [ed] at o; exact o.elim
              | some d =>
                rw [ed] at o
                obtain ⟨a', vs, z, fp2, f2, t1, t2, t3, t4, C3, h3⟩ := C2.take_out hk1 (atL_of e2) ed hi
                rw [s1] at t1; cases t1
                dsimp only at o
                split at o
                · rename_i hz
                  obtain ⟨b1, b2, b3⟩ := ixN_bd en_ (lim_ok hz)
                  exact ⟨a, vs, j, n, z, rfl, rfl, t2, b1, b2, by rw [t4]; exact b3, t3, o z _ _ _ f2 C3 h3⟩
                · exact o.elim
        | _ => exact o.elim
/-! ### xs[i] = v -/
def gStore (i : Nat) (m : EM) : D → En → Option En := fun d en => match atL i en with
  | some _ => match m en with
    | .ok (.int j) en2 => match atL i en2 with
      | some ds => match ixN ds.length j with
        | some n => some (en2.set i (some (.lst (ds.set n d))))
        | none => none
      | none => none
    | _ => none
  | none => none
theorem OwnL.put {vs : List V} {ds : List D} {fp fv : List Addr} {n : Nat} {v : V} {d : D} (h : OwnL G Z H k vs ds fp) (hv : Own G Z H k v d fv) (hn : n < ds.length) : ∃ f1 f2 f3, fp = f1 ++ (f2 ++ f3) ∧ OwnL G Z H k (vs.set n v) (ds.set n d) (f1 ++ (fv ++ f3)) := by
  obtain ⟨w, f1, f2, f3, _, q2, q3, q4, q5⟩ := h.split (List.getElem?_eq_getElem hn)
  refine ⟨f1, f2, f3, q2, ?_⟩
  rw [List.set_eq_take_append_cons_drop, List.set_eq_take_append_cons_drop, if_pos hn, if_pos (by rw [h.len]; exact hn)]
  exact q3.append (.cons hv q5)
theorem tg_sub {i : Nat} {x : Str} {p : Pos} {md : Md} (hN : X.N[i]? = some x) (hv : Vis X.env.scope x) (hk : Γ.getD i 0 = κ + 1) (he : OI X G WN lk Γ e md Γ m) (hi : i ∉ lk := by decide) (hd : (x == ("__debug__" : Str)) = false := by decide) (hcd : (x == ("__classdict__" : Str)) = false := by decide)
    (ha : ∀ v, assign (.Subscript (.Name x p) e pos) X.env v = (do
      let ov ← holding [v] (eval (.Name x p) X.env)
      let iv ← holding [v, ov] (eval e X.env)
      standAt pos
      holding [v, ov, iv] (setItem ov iv v)
      release [v, ov, iv] []) := by intro _; rfl) : TgI X G lk ro Γ (.Subscript (.Name x p) e pos) κ Γ [] (gStore i m) :=
  PG.imp (pg_sub (pe_var hN hv hd hcd) he set_list ha) fun y σ H Q ⟨B, Z, en, fps, d, fp, P, C, h, o⟩ => by
    unfold gStore at o
    cases e0 : atL i en with
    | none => rw [e0] at o; exact o.elim
    | some ds0 =>
      rw [e0] at o
      dsimp only at o
      obtain ⟨a, vs0, fp0, s1, s2, s3, s4⟩ := C.lst_at hk (atL_of e0)
      refine ⟨.ref a, s1, rb H Z lk fps B.pins, Z, en, fps, C.rebase _, ?_⟩
      cases em : m en with
      | bad => rw [em] at o; exact o.elim
      | exc c x => rw [em] at o; exact o.elim
      | ok dj en2 =>
        rw [em] at o
        cases dj with
        | int j =>
          dsimp only at o
          intro w Z2 H2 fps2 C2b hw
          obtain ⟨_, _, _, qw⟩ := Md.any hw
          have ew := own_int qw
          subst ew
          have C2 := C.comp (fun _ h => h) C2b
          have h2 := h.stay C (fun _ h => h) (fun _ h => nomatch h) C2b
          cases e2 : atL i en2 with
          | none => rw [e2] at o; exact o.elim
          | some ds =>
            rw [e2] at o
            dsimp only at o
            cases en_ : ixN ds.length j with
            | none => rw [en_] at o; exact o.elim
            | some n =>
              rw [en_] at o
              obtain ⟨a', vs, fq, t1, t2, t3, t4⟩ := C2.lst_at hk (atL_of e2)
              rw [s1] at t1; cases t1
              obtain ⟨_, hn, _, _⟩ := ixN_seq en_
              obtain ⟨f1, f2, f3, q1, q2⟩ := t3.put (h2.own.monoZ fun a z => Zl_nil.mp z) hn
              have nd := C2.nd i
              rw [t4, q1] at nd
              have nd' := List.nodup_cons.mp nd
              have n1 := List.nodup_append.mp nd'.2
              have n2 := List.nodup_append.mp n1.2.1
              have mi : ∀ b, b ∈ a :: (f1 ++ (f2 ++ f3)) → b ∈ fps2 i := fun b m => by rw [t4, q1]; exact m
              have i1 : ∀ b ∈ f1, b ∈ fps2 i := fun b m => mi b (List.mem_cons_of_mem _ (List.mem_append_left _ m))
              have i3 : ∀ b ∈ f3, b ∈ fps2 i := fun b m => mi b (List.mem_cons_of_mem _ (List.mem_append_right _ (List.mem_append_right _ m)))
              have cs : ∀ b, b ∈ f1 ++ (fp ++ f3) → b ∈ fp ∨ (b ∈ fps2 i ∧ b ≠ a) := fun b m => by
                rcases List.mem_append.mp m with m | m
                · exact .inr ⟨i1 b m, fun e => nd'.1 (e ▸ List.mem_append_left _ m)⟩
                · rcases List.mem_append.mp m with m | m
                  · exact .inl m
                  · exact .inr ⟨i3 b m, fun e => nd'.1 (e ▸ List.mem_append_right _ (List.mem_append_right _ m))⟩
              have C3 := C2.mut s1 hk t4 ⟨vs, t2⟩ hi q2
                (List.nodup_append.mpr ⟨n1.1, List.nodup_append.mpr ⟨h2.nd, n2.2.1, fun x hx z hz q => h2.ds x hx i (q ▸ i3 z hz)⟩, fun x hx z hz q => (List.mem_append.mp hz).elim (fun hz => h2.ds z hz i (q ▸ i1 x hx)) fun hz => n1.2.2 x hx z (List.mem_append_right _ hz) q⟩)
                (fun m => (cs a m).elim (fun m => h2.ds a m i (mi a List.mem_cons_self)) fun m => m.2 rfl)
                (fun b m => (cs b m).elim (h2.nz b) fun m => C2.nz i b m.1)
                (fun b m l hl => (cs b m).elim (fun m => h2.ds b m l) fun m q => hl (C2.dis l i b q m.1))
                (fun b m => (cs b m).elim (h2.nw b) fun m => by
                  rcases C2.newf i b m.1 with z | z | z
                  · exact .inl z
                  · exact absurd (C2.bok.lki i b z) hi
                  · exact .inr z)
              exact ⟨a, vs, j, n, rfl, rfl, t2, by rw [t3.len]; exact en_, o _ _ _ _ C3 .refl⟩
        | _ => exact o.elim
end
end Im
/-! Operators and built-in functions on plain data. -/
namespace Im
open PySem PySem.Spec PyProof.Rows L2
mutual
def toP : D → Option PyData
  | .non => some .none
  | .bl b => some (.bool b)
  | .int i => some (.int i)
  | .str x => some (.str x)
  | .tup xs => (toPL xs).map .tuple
  | .lst xs => (toPL xs).map .list
  | .scr ns => some (.list (ns.map .int))
  | .edict => none
  | .fn _ => none
  | .exc _ _ => none
  | .clo _ _ => none
  | .tl _ xs => (toPL xs).map .list
def toPL : List D → Option (List PyData)
  | [] => some []
  | x :: xs => match toP x, toPL xs with
    | some a, some b => some (a :: b)
    | _, _ => none
end
section
variable {G : GI} {B B' : Bs} {W : WX} {lk lk' L L' La Lb : List Nat} {Z Z' : Addr → Prop} {σ σ' : St} {H H' : Hp} {Γ Γ' Γ1 Γ2 Γ3 : List Nat} {en en' : En} {fps fps' : Nat → List Addr} {κ κ' k : Nat} {κs : List Nat} {v : V} {d : D} {ro : RO}
variable {X : Cx} {pos : Pos} {m ma mb mc : EM} {e a b c : Expr} {K : PySem.W.Frag}
theorem dpAll_ints : ∀ ns : List Int, DpAll K H (ns.map V.int) (ns.map PyData.int)
  | [] => .nil
  | n :: ns => .cons (.int n) (dpAll_ints ns)
theorem own_dp (hK : G.K = K) {k : Nat} {v : V} {d : D} {fp : List Addr} (h : Own G Z H k v d fp) : ∀ p, toP d = some p → Dp K H v p := by
  induction h using Own.rec (motive_2 := fun k vs ds fp _ => ∀ ps, toPL ds = some ps → DpAll K H vs ps) with
  | non => intro p e; cases e; exact .non
  | bl => intro p e; cases e; exact .bl _
  | int => intro p e; cases e; exact .int _
  | str => intro p e; cases e; exact .str _
  | fn => intro p e; cases e
  | scr s =>
    intro p e; cases e
    exact .lst (hK ▸ s.sq) (dpAll_ints _)
  | ed0 => intro p e; cases e
  | edS => intro p e; cases e
  | lst _ q _ ih =>
    intro p e
    unfold toP at e
    rw [Option.map_eq_some_iff] at e
    obtain ⟨ps, e1, rfl⟩ := e
    exact .lst (.inl (.of q)) (ih ps e1)
  | own q _ ih =>
    intro p e
    unfold toP at e
    rw [Option.map_eq_some_iff] at e
    obtain ⟨ps, e1, rfl⟩ := e
    exact .lst (.inl (.of q)) (ih ps e1)
  | tup q _ ih =>
    intro p e
    unfold toP at e
    rw [Option.map_eq_some_iff] at e
    obtain ⟨ps, e1, rfl⟩ := e
    exact .tup (.inl (.of q)) (ih ps e1)
  | exc => intro p e; cases e
  | clo => intro p e; cases e
  | tag _ _ ih => intro p e; exact ih p e
  | nil => rename_i p e; cases e; exact .nil
  | cons _ _ ih1 ih2 =>
    rename_i ps e
    unfold toPL at e
    split at e
    · rename_i a b e1 e2
      cases e
      exact .cons (ih1 _ e1) (ih2 _ e2)
    · cases e
/-! ### ints -/
def dI2 (g : Int → Int → D) : D → D → Option D
  | .int i, .int j => some (g i j)
  | _, _ => none
def dI2C (C : Int → Int → Bool) (g : Int → Int → D) : D → D → Option D
  | .int i, .int j => if C i j then some (g i j) else none
  | _, _ => none
theorem lk_I0 {g : Int → Int → V} {g' : Int → Int → D} (h : ∀ i j, ScV (g i j) (g' i j)) : Lk2 G (rI0 g) (dI2 g') := by
  intro H v1 v2 d1 d2 d Q ⟨_, _, _, o1⟩ ⟨_, _, _, o2⟩ e q
  unfold dI2 at e
  split at e
  · rename_i i j
    cases e
    exact ⟨i, j, own_int o1, own_int o2, q _ (h i j)⟩
  · cases e
theorem lk_IC {C : Int → Int → Prop} {C' : Int → Int → Bool} {g : Int → Int → V} {g' : Int → Int → D} (hC : ∀ i j, C' i j = true → C i j) (h : ∀ i j, ScV (g i j) (g' i j)) : Lk2 G (rI C g) (dI2C C' g') := by
  intro H v1 v2 d1 d2 d Q ⟨_, _, _, o1⟩ ⟨_, _, _, o2⟩ e q
  unfold dI2C at e
  split at e
  · rename_i i j
    split at e
    · rename_i c
      cases e
      exact ⟨i, j, own_int o1, own_int o2, hC i j c, q _ (h i j)⟩
    · cases e
  · cases e
def dAdd : D → D → Option D := dI2 fun i j => .int (i + j)
def dSub : D → D → Option D := dI2 fun i j => .int (i - j)
def cMul (i j : Int) : Bool := (decide (-(2 ^ 64) < i) && decide (i < 2 ^ 64)) || (decide (-(2 ^ 64) < j) && decide (j < 2 ^ 64))
def dMul : D → D → Option D := dI2C cMul fun i j => .int (i * j)
def cDiv (_ j : Int) : Bool := decide (j ≠ 0) && decide (j.natAbs < 1073741824)
def dDiv : D → D → Option D := dI2C cDiv fun i j => .int (i.fdiv j)
def cMod (_ j : Int) : Bool := decide (j ≠ 0)
def dMod : D → D → Option D := dI2C cMod fun i j => .int (i.fmod j)
def cPow (i j : Int) : Bool := decide (0 ≤ j) && decide ((Builtin.Int.intBits i : Int) * j ≤ 2 ^ 27)
def dPow : D → D → Option D := dI2C cPow fun i j => .int (i ^ j.toNat)
theorem lk_add : Lk2 G (rI0 fun i j => .int (i + j)) dAdd := lk_I0 fun _ _ => .int
theorem lk_sub : Lk2 G (rI0 fun i j => .int (i - j)) dSub := lk_I0 fun _ _ => .int
theorem lk_mul : Lk2 G (rI CMul fun i j => .int (i * j)) dMul := lk_IC (fun i j h => by
  unfold cMul at h
  rw [Bool.or_eq_true, Bool.and_eq_true, Bool.and_eq_true] at h
  exact h.imp (fun h => ⟨of_decide_eq_true h.1, of_decide_eq_true h.2⟩) fun h => ⟨of_decide_eq_true h.1, of_decide_eq_true h.2⟩) fun _ _ => .int
theorem lk_div : Lk2 G (rI CDivN fun i j => .int (i.fdiv j)) dDiv := lk_IC (fun i j h => by
  unfold cDiv at h
  rw [Bool.and_eq_true] at h
  exact ⟨of_decide_eq_true h.1, of_decide_eq_true h.2⟩) fun _ _ => .int
theorem lk_mod : Lk2 G (rI (fun _ j => j ≠ 0) fun i j => .int (i.fmod j)) dMod := lk_IC (fun i j h => of_decide_eq_true h) fun _ _ => .int
def CPowG (i j : Int) : Prop := 0 ≤ j ∧ (Builtin.Int.intBits i : Int) * j ≤ 2 ^ 27
theorem op_powG : OpR X (binaryOp .Pow) (rI CPowG fun i j => .int (i ^ j.toNat)) := opI fun _ _ _ _ _ _ _ hc q => pow_int hc.1 hc.2 q
theorem lk_pow : Lk2 G (rI CPowG fun i j => .int (i ^ j.toNat)) dPow := lk_IC (fun i j h => by
  unfold cPow at h
  rw [Bool.and_eq_true] at h
  exact ⟨of_decide_eq_true h.1, of_decide_eq_true h.2⟩) fun _ _ => .int
def dLt : D → D → Option D := dI2 fun i j => .bl (decide (i < j))
def dLe : D → D → Option D := dI2 fun i j => .bl (decide (i ≤ j))
def dGt : D → D → Option D := dI2 fun i j => .bl (decide (j < i))
def dGe : D → D → Option D := dI2 fun i j => .bl (decide (j ≤ i))
theorem lk_lt : Lk2 G (rI0 fun i j => .bl (decide (i < j))) dLt := lk_I0 fun _ _ => .bl
theorem lk_le : Lk2 G (rI0 fun i j => .bl (decide (i ≤ j))) dLe := lk_I0 fun _ _ => .bl
theorem lk_gt : Lk2 G (rI0 fun i j => .bl (decide (j < i))) dGt := lk_I0 fun _ _ => .bl
theorem lk_ge : Lk2 G (rI0 fun i j => .bl (decide (j ≤ i))) dGe := lk_I0 fun _ _ => .bl
/-! ### == and != of data -/
def eqD (neg : Bool) (d1 d2 : D) : Option D := match toP d1, toP d2 with
  | some p, some q => if SeqAt.shaped p && SeqAt.shaped q then some (.bl (if neg then !PyData.eqv p q else PyData.eqv p q)) else none
  | _, _ => none
theorem lk_eq (hK : G.K = K) : Lk2 G (rEqD K) (eqD false) := by
  intro H v1 v2 d1 d2 d Q ⟨_, _, _, o1⟩ ⟨_, _, _, o2⟩ e q
  unfold eqD at e
  split at e
  · rename_i p r e1 e2
    split at e
    · rename_i hs
      rw [Bool.and_eq_true] at hs
      cases e
      exact ⟨p, r, own_dp hK o1 p e1, own_dp hK o2 r e2, hs.1, hs.2, q _ .bl⟩
    · cases e
  · cases e
theorem lk_ne (hK : G.K = K) : Lk2 G (rNeD K) (eqD true) := by
  intro H v1 v2 d1 d2 d Q ⟨_, _, _, o1⟩ ⟨_, _, _, o2⟩ e q
  unfold eqD at e
  split at e
  · rename_i p r e1 e2
    split at e
    · rename_i hs
      rw [Bool.and_eq_true] at hs
      cases e
      exact ⟨p, r, own_dp hK o1 p e1, own_dp hK o2 r e2, hs.1, hs.2, q _ .bl⟩
    · cases e
  · cases e
/-! ### is None, is True, is False -/
def isNon : D → Bool
  | .non => true
  | _ => false
theorem own_isNon {fp : List Addr} (h : Own G Z H k v d fp) : decide (v = .non) = isNon d := by
  cases h <;> simp [isNon]
def dIsN : D → D → Option D
  | d, .non => some (.bl (isNon d))
  | _, _ => none
def dNotN : D → D → Option D
  | d, .non => some (.bl (!isNon d))
  | _, _ => none
theorem own_non {fp : List Addr} (h : Own G Z H k v .non fp) : v = .non := by cases h; rfl
theorem lk_isN : Lk2 G (fun x y H Q => y = .non ∧ Q (.bl (decide (x = .non))) H) dIsN := by
  intro H v1 v2 d1 d2 d Q ⟨_, _, _, o1⟩ ⟨_, _, _, o2⟩ e q
  unfold dIsN at e
  split at e
  · cases e
    exact ⟨own_non o2, q _ (own_isNon o1 ▸ .bl)⟩
  · cases e
theorem lk_notN : Lk2 G (fun x y H Q => y = .non ∧ Q (.bl (!decide (x = .non))) H) dNotN := by
  intro H v1 v2 d1 d2 d Q ⟨_, _, _, o1⟩ ⟨_, _, _, o2⟩ e q
  unfold dNotN at e
  split at e
  · cases e
    exact ⟨own_non o2, q _ (own_isNon o1 ▸ .bl)⟩
  · cases e
def isBl (b : Bool) : D → Bool
  | .bl c => c == b
  | _ => false
def dIsB : D → D → Option D
  | d, .bl b => some (.bl (isBl b d))
  | _, _ => none
def dNotB : D → D → Option D
  | d, .bl b => some (.bl (!isBl b d))
  | _, _ => none
def rIsB1 (neg : Bool) : R2 := fun x y H Q => ∃ b, y = .bl b ∧ (∀ c, x ≠ .byt c) ∧ Q (.bl (if neg then !decide (x = .bl b) else decide (x = .bl b))) H
theorem relv_bl {x : V} {u : Value} {b : Bool} (r : RelV x u) (hb : ∀ c, x ≠ .byt c) : (x = .bl b ∧ u = .bool b) ∨ (x ≠ .bl b ∧ u ≠ .bool b ∧ plainIs u (.bool b) = true) := by
  cases x with
  | bl c =>
    cases (show u = Value.bool c from r)
    by_cases e : c = b
    · subst e; exact .inl ⟨rfl, rfl⟩
    · exact .inr ⟨fun z => e (V.bl.inj z), fun z => e (Value.bool.inj z), rfl⟩
  | non => cases (show u = Value.none from r); exact .inr ⟨nofun, nofun, rfl⟩
  | int i => obtain ⟨t, rfl⟩ := (show ∃ t, u = Value.int i t from r); exact .inr ⟨nofun, nofun, rfl⟩
  | str i => obtain ⟨t, rfl⟩ := (show ∃ t, u = Value.str i t from r); exact .inr ⟨nofun, nofun, rfl⟩
  | flt i => obtain ⟨t, rfl⟩ := (show ∃ t, u = Value.float i t from r); exact .inr ⟨nofun, nofun, rfl⟩
  | byt i => exact absurd rfl (hb i)
  | ref i => cases (show u = Value.ref i from r); exact .inr ⟨nofun, nofun, rfl⟩
  | ty i => cases (show u = Value.type i from r); exact .inr ⟨nofun, nofun, rfl⟩
theorem op_isB1 : OpR X (compareOp .Is) (rIsB1 false) := by
  intro pins s σ H x y v u Q I rx ry h
  obtain ⟨b, rfl, hb, q⟩ := h
  cases (show u = Value.bool b from ry)
  rcases relv_bl (b := b) rx hb with ⟨e1, e2⟩ | ⟨e1, e2, e3⟩
  · subst e2
    exact wpAny_is_self rfl ⟨.bl true, H, I, rfl, by simpa [e1] using q⟩
  · exact wpAny_is_other e3 e2 ⟨.bl false, H, I, rfl, by simpa [e1] using q⟩
theorem op_notB1 : OpR X (compareOp .IsNot) (rIsB1 true) := by
  intro pins s σ H x y v u Q I rx ry h
  obtain ⟨b, rfl, hb, q⟩ := h
  cases (show u = Value.bool b from ry)
  rcases relv_bl (b := b) rx hb with ⟨e1, e2⟩ | ⟨e1, e2, e3⟩
  · subst e2
    exact wpAny_isNot_self rfl ⟨.bl false, H, I, rfl, by simpa [e1] using q⟩
  · exact wpAny_isNot_other e3 e2 ⟨.bl true, H, I, rfl, by simpa [e1] using q⟩
theorem own_isBl {fp : List Addr} {b : Bool} (h : Own G Z H k v d fp) : decide (v = .bl b) = isBl b d := by
  cases h with
  | bl => rename_i b'; cases b <;> cases b' <;> decide
  | _ => simp [isBl]
theorem own_noByt {fp : List Addr} (h : Own G Z H k v d fp) : ∀ c, v ≠ .byt c := by
  cases h <;> nofun
theorem own_bl {fp : List Addr} {b : Bool} (h : Own G Z H k v (.bl b) fp) : v = .bl b := by cases h; rfl
theorem lk_isB : Lk2 G (rIsB1 false) dIsB := by
  intro H v1 v2 d1 d2 d Q ⟨_, _, _, o1⟩ ⟨_, _, _, o2⟩ e q
  unfold dIsB at e
  split at e
  · rename_i d' b
    cases e
    exact ⟨b, own_bl o2, own_noByt o1, q _ (by rw [← own_isBl o1]; exact .bl)⟩
  · cases e
theorem lk_notB : Lk2 G (rIsB1 true) dNotB := by
  intro H v1 v2 d1 d2 d Q ⟨_, _, _, o1⟩ ⟨_, _, _, o2⟩ e q
  unfold dNotB at e
  split at e
  · rename_i d' b
    cases e
    exact ⟨b, own_bl o2, own_noByt o1, q _ (by rw [← own_isBl o1]; exact .bl)⟩
  · cases e
/-! ### chains of two comparisons -/
def mChain (f f' : D → D → Option D) (ma mb mc : EM) : EM := fun en => match mm2 ma mb en with
  | .ok d1 d2 en2 => if scD d2 then match f d1 d2 with
    | some (.bl true) => match mc en2 with
      | .ok d3 en3 => match f' d2 d3 with
        | some d => .ok d en3
        | none => .bad
      | .exc c x => .exc c x
      | .bad => .bad
    | some (.bl false) => .ok (.bl false) en2
    | _ => .bad
    else .bad
  | .exc c x => .exc c x
  | .bad => .bad
theorem ei_chain {op op' : CmpOp} {r r' : R2} {f f' : D → D → Option D} {mda mdb mdc : Md} (ho : OpR X (compareOp op) r) (ho' : OpR X (compareOp op') r') (lnk : Lk2 G r f) (lnk' : Lk2 G r' f') (ha : OI X G W lk Γ a mda Γ1 ma) (hb : OI X G W (mda.L ++ lk) Γ1 b mdb Γ2 mb) (hc : OI X G W lk Γ2 c mdc Γ2 mc)
    (hm : lastMarks [op, op'] [b, c] = false := by rfl) :
    EI X G W lk Γ (.Compare a [op, op'] [b, c] pos) κ [] Γ2 (mChain f f' ma mb mc) := PE.imp (pe_chain ho ho' ha hb hc hm) fun σ H Q ⟨B, Z, en, fps, C, o⟩ => run2 C <| by
  unfold mChain at o
  cases e : mm2 ma mb en with
  | bad => rw [e] at o; exact o.elim
  | exc c x => rw [e] at o; exact o
  | ok d1 d2 en2 =>
    rw [e] at o
    dsimp only at o
    intro v1 v2 Z2 H2 fps2 C2 h1 h2
    split at o
    · rename_i hsc
      cases ef : f d1 d2 with
      | none => rw [ef] at o; exact o.elim
      | some d =>
        rw [ef] at o
        cases d with
        | bl k =>
          refine lnk H2 v1 v2 d1 d2 _ _ (Md.any h1) (Md.any h2) ef fun z sc => ?_
          cases sc
          refine ⟨k, rfl, ?_⟩
          cases k with
          | true =>
            rw [if_pos rfl]
            refine ⟨B, Z2, en2, fps2, C2, ?_⟩
            dsimp only at o
            cases ec : mc en2 with
            | bad => rw [ec] at o; exact o.elim
            | exc c x => rw [ec] at o; exact o
            | ok d3 en3 =>
              rw [ec] at o
              dsimp only at o
              intro v3 Z3 H3 fps3 C3 h3
              cases ef' : f' d2 d3 with
              | none => rw [ef'] at o; exact o.elim
              | some d =>
                rw [ef'] at o
                obtain ⟨_, _, _, o2⟩ := Md.any h2
                exact lnk' H3 v2 v3 d2 d3 d Q ⟨Z3, 0, [], (scD_scv o2 hsc).1.own⟩ (Md.any h3) ef' fun v s => o v Z3 H3 fps3 [] C3 (.sc s)
          | false =>
            rw [if_neg Bool.false_ne_true]
            exact o _ _ _ _ [] C2 (.sc .bl)
        | _ => exact o.elim
    · exact o.elim
/-! ### one argument -/
theorem own_lst_any {ds : List D} {fp : List Addr} (h : Own G Z H k v (.lst ds) fp) : ∃ a vs fp', v = .ref a ∧ H a = some (.lst vs) ∧ OwnL G Z H (k - 1) vs ds fp' := by
  cases h with
  | lst z e h => exact ⟨_, _, _, rfl, e, h⟩
  | own e h => exact ⟨_, _, _, rfl, e, h⟩
def intsD : List D → Option (List Int)
  | [] => some []
  | .int i :: ds => (intsD ds).map (i :: ·)
  | _ :: _ => none
def blsD : List D → Option (List Bool)
  | [] => some []
  | .bl i :: ds => (blsD ds).map (i :: ·)
  | _ :: _ => none
def strsD : List D → Option (List Str)
  | [] => some []
  | .str i :: ds => (strsD ds).map (i :: ·)
  | _ :: _ => none
theorem intsD_v : ∀ {vs : List V} {ds : List D} {fp : List Addr} {ns : List Int}, OwnL G Z H k vs ds fp → intsD ds = some ns → vs = ns.map V.int := by
  intro vs
  induction vs with
  | nil => intro ds fp ns h e; cases h; cases e; rfl
  | cons v vs ih =>
    intro ds fp ns h e
    cases h with
    | cons h1 h2 =>
      rename_i d ds _ _
      cases d with
      | int i =>
        unfold intsD at e
        rw [Option.map_eq_some_iff] at e
        obtain ⟨ms, e1, rfl⟩ := e
        rw [own_int h1, ih h2 e1]; rfl
      | _ => cases e
theorem blsD_v : ∀ {vs : List V} {ds : List D} {fp : List Addr} {ns : List Bool}, OwnL G Z H k vs ds fp → blsD ds = some ns → vs = ns.map V.bl := by
  intro vs
  induction vs with
  | nil => intro ds fp ns h e; cases h; cases e; rfl
  | cons v vs ih =>
    intro ds fp ns h e
    cases h with
    | cons h1 h2 =>
      rename_i d ds _ _
      cases d with
      | bl i =>
        unfold blsD at e
        rw [Option.map_eq_some_iff] at e
        obtain ⟨ms, e1, rfl⟩ := e
        rw [own_bl h1, ih h2 e1]; rfl
      | _ => cases e
theorem strsD_v : ∀ {vs : List V} {ds : List D} {fp : List Addr} {ns : List Str}, OwnL G Z H k vs ds fp → strsD ds = some ns → vs = ns.map V.str := by
  intro vs
  induction vs with
  | nil => intro ds fp ns h e; cases h; cases e; rfl
  | cons v vs ih =>
    intro ds fp ns h e
    cases h with
    | cons h1 h2 =>
      rename_i d ds _ _
      cases d with
      | str i =>
        unfold strsD at e
        rw [Option.map_eq_some_iff] at e
        obtain ⟨ms, e1, rfl⟩ := e
        rw [own_str h1, ih h2 e1]; rfl
      | _ => cases e
def dSum : D → Option D
  | .lst ds => (intsD ds).map fun ns => .int ns.sum
  | _ => none
theorem lk_sum : Lk1 G (rSum K) dSum := by
  intro H v d d' Q ⟨_, _, _, o⟩ e q
  unfold dSum at e
  split at e
  · rw [Option.map_eq_some_iff] at e
    obtain ⟨ns, e1, rfl⟩ := e
    obtain ⟨a, vs, _, rfl, h1, h2⟩ := own_lst_any o
    exact ⟨a, ns, rfl, intsD_v h2 e1 ▸ .inl (.of h1), q _ .int⟩
  · cases e
def dAll : D → Option D
  | .lst ds => (blsD ds).map fun ns => .bl (ns.all id)
  | _ => none
theorem lk_all : Lk1 G (rAll K) dAll := by
  intro H v d d' Q ⟨_, _, _, o⟩ e q
  unfold dAll at e
  split at e
  · rw [Option.map_eq_some_iff] at e
    obtain ⟨ns, e1, rfl⟩ := e
    obtain ⟨a, vs, _, rfl, h1, h2⟩ := own_lst_any o
    exact ⟨a, ns, rfl, blsD_v h2 e1 ▸ .inl (.of h1), q _ .bl⟩
  · cases e
def dAny : D → Option D
  | .lst ds => (blsD ds).map fun ns => .bl (ns.any id)
  | _ => none
theorem lk_any : Lk1 G (rAny K) dAny := by
  intro H v d d' Q ⟨_, _, _, o⟩ e q
  unfold dAny at e
  split at e
  · rw [Option.map_eq_some_iff] at e
    obtain ⟨ns, e1, rfl⟩ := e
    obtain ⟨a, vs, _, rfl, h1, h2⟩ := own_lst_any o
    exact ⟨a, ns, rfl, blsD_v h2 e1 ▸ .inl (.of h1), q _ .bl⟩
  · cases e
def dLen : D → Option D
  | .lst ds => some (.int ds.length)
  | .tup ds => some (.int ds.length)
  | .scr ns => some (.int ns.length)
  | .str z => if z.length ≤ lim then some (.int z.length) else none
  | _ => none
theorem lk_len (hK : G.K = K) : Lk1 G (fun xs H Q => ∃ x n, xs = [x] ∧ LenV K x H n ∧ Q (.int n) H) dLen := by
  intro H v d d' Q ⟨_, _, _, o⟩ e q
  unfold dLen at e
  split at e
  · cases e
    obtain ⟨a, vs, _, rfl, h1, h2⟩ := own_lst_any o
    exact ⟨_, _, rfl, .inl ⟨vs, .inl (.of h1), by rw [h2.len]⟩, q _ .int⟩
  · cases e
    obtain ⟨a, vs, rfl, h1, h2⟩ := own_tup o
    exact ⟨_, _, rfl, .inr ⟨vs, .inl (.of h1), by rw [h2.len]⟩, q _ .int⟩
  · cases e
    obtain ⟨a, rfl, s⟩ := own_scr o
    exact ⟨_, _, rfl, .inl ⟨_, hK ▸ s.sq, (List.length_map ..).symm⟩, q _ .int⟩
  · split at e
    · rename_i z hz
      cases e
      have := own_str o
      subst this
      exact ⟨_, _, rfl, ⟨lim_ok hz, rfl⟩, q _ .int⟩
    · cases e
  · cases e
def dInt : D → Option D
  | .int i => some (.int i)
  | .bl b => some (.int (if b then 1 else 0))
  | _ => none
theorem lk_int : Lk1 G (fun xs H Q => (∃ i, xs = [V.int i] ∧ Q (.int i) H) ∨ ∃ k, xs = [V.bl k] ∧ Q (.int (if k then 1 else 0)) H) dInt := by
  intro H v d d' Q ⟨_, _, _, o⟩ e q
  unfold dInt at e
  split at e
  · cases e
    exact .inl ⟨_, by rw [own_int o], q _ .int⟩
  · cases e
    exact .inr ⟨_, by rw [own_bl o], q _ .int⟩
  · cases e
def dMax : D → D → Option D := dI2 fun i j => .int (if j > i then j else i)
def dMin : D → D → Option D := dI2 fun i j => .int (if j < i then j else i)
theorem lk_max : LkB2 G (fun xs H Q => ∃ i j, xs = [V.int i, V.int j] ∧ Q (.int (if j > i then j else i)) H) dMax := by
  intro H v1 v2 d1 d2 d Q ⟨_, _, _, o1⟩ ⟨_, _, _, o2⟩ e q
  unfold dMax dI2 at e
  split at e
  · cases e
    exact ⟨_, _, by rw [own_int o1, own_int o2], q _ .int⟩
  · cases e
theorem lk_min : LkB2 G (fun xs H Q => ∃ i j, xs = [V.int i, V.int j] ∧ Q (.int (if j < i then j else i)) H) dMin := by
  intro H v1 v2 d1 d2 d Q ⟨_, _, _, o1⟩ ⟨_, _, _, o2⟩ e q
  unfold dMin dI2 at e
  split at e
  · cases e
    exact ⟨_, _, by rw [own_int o1, own_int o2], q _ .int⟩
  · cases e
/-! ### texts -/
def dCatS : D → D → Option D
  | .str x, .str y => if x.length + y.length ≤ lim then some (.str (x ++ y)) else none
  | _, _ => none
theorem lk_catS : Lk2 G (fun x y H Q => ∃ i j, x = .str i ∧ y = .str j ∧ i.length + j.length ≤ sizeLine ∧ Q (.str (i ++ j)) H) dCatS := by
  intro H v1 v2 d1 d2 d Q ⟨_, _, _, o1⟩ ⟨_, _, _, o2⟩ e q
  unfold dCatS at e
  split at e
  · split at e
    · rename_i hz
      cases e
      exact ⟨_, _, own_str o1, own_str o2, lim_ok hz, q _ .str⟩
    · cases e
  · cases e
def dInS (neg : Bool) : D → D → Option D
  | .str x, .str y => some (.bl (if neg then (Builtin.Str.occurrences y x 0 y.length 1).isEmpty else !(Builtin.Str.occurrences y x 0 y.length 1).isEmpty))
  | _, _ => none
theorem lk_inS : Lk2 G (fun x y H Q => ∃ i j, x = .str i ∧ y = .str j ∧ Q (.bl (!(Builtin.Str.occurrences j i 0 j.length 1).isEmpty)) H) (dInS false) := by
  intro H v1 v2 d1 d2 d Q ⟨_, _, _, o1⟩ ⟨_, _, _, o2⟩ e q
  unfold dInS at e
  split at e
  · cases e
    exact ⟨_, _, own_str o1, own_str o2, q _ .bl⟩
  · cases e
/-! ### isinstance -/
def tyD : D → Option String
  | .non => some "NoneType"
  | .bl _ => some "bool"
  | .int _ => some "int"
  | .str _ => some "str"
  | .tup _ => some "tuple"
  | .lst _ => some "list"
  | .tl _ _ => some "list"
  | .scr _ => some "list"
  | .edict => some "dict"
  | _ => none
theorem own_ty (hK : G.K = K) {t : String} {fp : List Addr} (h : Own G Z H k v d fp) (e : tyD d = some t) : TyX K H v (.type t) := by
  cases h with
  | non => cases e; exact .base .non
  | bl => cases e; exact .base (.bl _)
  | int => cases e; exact .base (.int _)
  | str => cases e; exact .base (.str _)
  | tup q _ => cases e; exact .base (.tup q)
  | lst _ q _ => cases e; exact .base (.lst q)
  | own q _ => cases e; exact .base (.lst q)
  | ed0 _ q => cases e; exact .base (.dK q)
  | edS q => cases e; exact .base (.dK q)
  | scr s =>
    cases e
    rcases s with ⟨o, q⟩ | ⟨o, its, n, q, c, _⟩
    · exact .base (.frz q)
    · exact .kList (hK ▸ q) c
  | fn => cases e
  | exc => cases e
  | clo => cases e
  | tag _ q =>
    cases e
    cases q with
    | lst _ q _ => exact .base (.lst q)
    | own q _ => exact .base (.lst q)
def isB (T t : String) : Bool := t == T || (t == "bool" && T == "int")
def kTys : List String := ["NoneType", "bool", "int", "str", "tuple", "list", "dict"]
theorem tyD_mem {d : D} {t : String} (e : tyD d = some t) : t ∈ kTys := by
  unfold tyD at e
  split at e <;> first | (cases e; decide) | cases e
theorem kitB_is : ∀ T ∈ ["int", "bool", "str", "list", "tuple"], ∀ t ∈ kTys, kitB t T = some (isB T t) := by decide +kernel
def dIsI (T : String) (d : D) : Option D := (tyD d).map fun t => .bl (isB T t)
theorem ei_isi {T : Str} {Ts : String} {md : Md} {p p2 : Pos} (hK : G.K = X.K) (hT : Ts ∈ ["int", "bool", "str", "list", "tuple"]) (hg : Gl X "isinstance") (hm : X.mg "isinstance" = none) (hv : bootBuiltins "isinstance" = some (.builtin "isinstance")) (hg2 : Gl X T) (hm2 : X.mg T = none) (hv2 : bootBuiltins T = some (.type Ts)) (ha : OI X G W lk Γ a md Γ' m)
    (hn2 : T ≠ "__name__" := by decide) (hd2 : (T == ("__debug__" : Str)) = false := by decide)
    (he : starEach (a :: [.Name T p2]) X.env = (false, eval a X.env) :: starEach [.Name T p2] X.env := by rfl) (he2 : starEach [.Name T p2] X.env = (false, eval (.Name T p2) X.env) :: starEach [] X.env := by rfl) (hpl : (backTo pos (starEach [.Name T p2] X.env)).any (·.1) = false := by rfl) :
    EI X G W lk Γ (.Call (.Name "isinstance" p) [a, .Name T p2] [] pos) κ [] Γ' (m1 (dIsI Ts) m) :=
  PE.imp (pe_callB call_isi hg hm hv (pa_cons ha (pa_cons (pe_bltn hg2 hm2 hv2 (show RelV (.ty Ts) (.type Ts) from rfl) hn2 hd2) pa_nil he2) he) (by decide) (by decide) he hpl) fun σ H Q ⟨B, Z, en, fps, C, o⟩ => ⟨B, Z, en, fps, C, out1 (md := md) (r := fun v H2 => rIsi X.K [v, .ty Ts] H2 Q) o fun d d' v Z2 H2 fps2 en2 ef C2 h2 o => by
    unfold dIsI at ef
    rw [Option.map_eq_some_iff] at ef
    obtain ⟨t, e1, rfl⟩ := ef
    obtain ⟨_, _, _, ow⟩ := Md.any h2
    exact ⟨v, .ty Ts, .type t, .type Ts, _, rfl, .ty Ts, own_ty hK ow e1, kit_ty (kitB_is Ts hT t (tyD_mem e1)), o _ _ _ _ [] C2 (.sc .bl)⟩⟩
end
end Im
/-! repr, texts, tuples of classes, lists made of others, enumerate, calls of a function held. -/
namespace Im
open PySem PySem.Spec PyProof.Rows L2
mutual
theorem toP_nodict : ∀ (d : D) (p : PyData), toP d = some p → p.hasDict = false
  | .non, p, e => by cases e; rfl
  | .bl _, p, e => by cases e; rfl
  | .int _, p, e => by cases e; rfl
  | .str _, p, e => by cases e; rfl
  | .tup xs, p, e => by
    unfold toP at e
    rw [Option.map_eq_some_iff] at e
    obtain ⟨ps, e1, rfl⟩ := e
    unfold PyData.hasDict
    exact toPL_nodict xs ps e1
  | .lst xs, p, e => by
    unfold toP at e
    rw [Option.map_eq_some_iff] at e
    obtain ⟨ps, e1, rfl⟩ := e
    unfold PyData.hasDict
    exact toPL_nodict xs ps e1
  | .scr ns, p, e => by
    cases e
    unfold PyData.hasDict
    induction ns with
    | nil => rfl
    | cons n ns ih =>
      show (PyData.hasDict (.int n) || PyData.hasDictAll (ns.map .int)) = false
      rw [ih]; rfl
  | .edict, p, e => by cases e
  | .fn _, p, e => by cases e
  | .exc _ _, p, e => by cases e
  | .clo _ _, p, e => by cases e
  | .tl _ xs, p, e => by
    unfold toP at e
    rw [Option.map_eq_some_iff] at e
    obtain ⟨ps, e1, rfl⟩ := e
    unfold PyData.hasDict
    exact toPL_nodict xs ps e1
theorem toPL_nodict : ∀ (ds : List D) (ps : List PyData), toPL ds = some ps → PyData.hasDictAll ps = false
  | [], ps, e => by cases e; rfl
  | d :: ds, ps, e => by
    unfold toPL at e
    split at e
    · rename_i a b e1 e2
      cases e
      unfold PyData.hasDictAll
      rw [toP_nodict d a e1, toPL_nodict ds b e2]; rfl
    · cases e
end
section
variable {G : GI} {B B' : Bs} {W : WX} {lk lk' L L' La Lb : List Nat} {Z Z' : Addr → Prop} {σ σ' : St} {H H' : Hp} {Γ Γ' Γ1 Γ2 Γ3 : List Nat} {en en' : En} {fps fps' : Nat → List Addr} {κ κ' k : Nat} {κs : List Nat} {v : V} {d : D} {ro : RO}
variable {X : Cx} {pos : Pos} {m ma mb mc : EM} {e a b c : Expr} {K : PySem.W.Frag}
/-! ### repr -/
def dRepr : D → Option D := fun d => match toP d with
  | some p => if p.showable && decide (p.depth ≤ 60) && decide (p.shown.length ≤ lim) then some (.str p.shown) else none
  | none => none
def rRepr (K : PySem.W.Frag) : List V → Hp → VK → Prop := fun xs H Q => ∃ x p, xs = [x] ∧ Dp K H x p ∧ p.hasDict = false ∧ p.showable = true ∧ p.depth ≤ 60 ∧ p.shown.length ≤ sizeLine ∧ Q (.str p.shown) H
theorem call_repr (hg : X.A.guards = some []) (hu : X.A.units + 64 < cLine) : CallR X (.builtin "repr") (rRepr X.K) := by
  intro pins s σ H xs us Q I r h
  obtain ⟨x, p, rfl, hd, nd, hs, hp, hz, q⟩ := h
  obtain ⟨u, rfl, rx⟩ := vals1 r
  have ref : ∀ (a : Addr) (as : List Addr), Reads s.heap (.ref a) p as → wpAny (model X.prog X.w) X.A (call (.builtin "repr") [.ref a]) (EP X pins σ Q) X.xe s := fun a as rd =>
    repr_of_reads' rd hs (fun e => by rw [nd] at e; cases e) hg (by omega) (fun _ _ e => e) (fun h' u tk hk => ⟨.str p.shown, H, I.kept (h' := h') (t' := tk) hk, ⟨u, rfl⟩, q⟩) hz
  obtain ⟨as, rd⟩ := Dp.reads I p x u hd rx
  cases hd with
  | non =>
    cases (show u = Value.none from rx)
    exact PySem.P.repr_of_none ⟨.str _, H, I.tok _, ⟨_, rfl⟩, q⟩
  | bl b =>
    cases (show u = Value.bool b from rx)
    exact PySem.P.repr_of_bool ⟨.str _, H, I.tok _, ⟨_, rfl⟩, by simpa [PyData.shown] using q⟩
  | int i =>
    obtain ⟨t, rfl⟩ := (show ∃ t, u = Value.int i t from rx)
    exact PySem.P.repr_of_int (by simpa [PyData.showable] using hs) ⟨.str _, H, I.tok _, ⟨_, rfl⟩, by simpa [PyData.shown] using q⟩
  | str z =>
    obtain ⟨t, rfl⟩ := (show ∃ t, u = Value.str z t from rx)
    exact PySem.P.repr_of_str ⟨.str _, H, I.tok _, ⟨_, rfl⟩, by simpa [PyData.shown] using q⟩ (by simpa [PyData.shown] using hz)
  | @lst a xs ds _ _ =>
    cases (show u = Value.ref a from rx)
    exact ref a as rd
  | @tup a xs ds _ _ =>
    cases (show u = Value.ref a from rx)
    exact ref a as rd
theorem lk_repr (hK : G.K = K) : Lk1 G (rRepr K) dRepr := by
  intro H v d d' Q ⟨_, _, _, o⟩ e q
  unfold dRepr at e
  split at e
  · rename_i p ep
    split at e
    · rename_i c
      cases e
      rw [Bool.and_eq_true, Bool.and_eq_true] at c
      exact ⟨v, p, rfl, own_dp hK o p ep, toP_nodict _ _ ep, c.1.1, of_decide_eq_true c.1.2, lim_ok (of_decide_eq_true c.2), q _ .str⟩
    · cases e
  · cases e
/-! ### methods of texts -/
def mS (m : EM) : EM := fun en => match m en with
  | .ok (.str z) en' => .ok (.str z) en'
  | .ok _ _ => .bad
  | .exc c x => .exc c x
  | .bad => .bad
theorem mm2_S {ma mb : EM} {en en2 : En} {d1 d2 : D} (h : mm2 (mS ma) mb en = .ok d1 d2 en2) : ∃ z, d1 = .str z := by
  unfold mm2 mS at h
  cases e : ma en with
  | bad => rw [e] at h; cases h
  | exc c x => rw [e] at h; cases h
  | ok d en1 =>
    rw [e] at h
    cases d with
    | str z =>
      dsimp only at h
      cases eb : mb en1 with
      | bad => rw [eb] at h; cases h
      | exc c x => rw [eb] at h; cases h
      | ok d' en' => rw [eb] at h; cases h; exact ⟨z, rfl⟩
    | _ => cases h
/-- a value that is a text -/
theorem oi_S {md : Md} {Q : VK} (C : Cfg G B lk Z σ H Γ en fps) (o : OutO G B W lk md Γ1 σ Q (mS m en)) : tO G W lk Γ md Γ1 m σ H fun x H1 => (∃ z, x = .str z) ∧ Q x H1 := by
  refine ⟨B, Z, en, fps, C, ?_⟩
  unfold mS at o
  cases e : m en with
  | bad => rw [e] at o; exact o
  | exc c x => rw [e] at o; exact o
  | ok d en' =>
    rw [e] at o
    cases d with
    | str z =>
      intro v Z' H' fps' C' h'
      obtain ⟨_, _, _, q⟩ := Md.any h'
      exact ⟨⟨z, own_str q⟩, o v Z' H' fps' C' h'⟩
    | _ => exact o.elim
theorem run2S {mda mdb : Md} {R : V → V → Hp → Prop} (C : Cfg G B lk Z σ H Γ en fps) (h : Out2 G B W lk mda mdb Γ2 σ R (mm2 (mS ma) mb en)) :
    tO G W lk Γ mda Γ1 ma σ H fun x H1 => (∃ z, x = .str z) ∧ tO G W (mda.L ++ lk) Γ1 mdb Γ2 mb σ H1 fun y H2 => R x y H2 := by
  obtain ⟨B', Z', en', fps', C', o⟩ := run2 (Γ1 := Γ1) (ma := mS ma) C h
  exact oi_S C' o
def dCount : D → D → Option D
  | .str x, .str y => some (.int (Txt.count x y))
  | _, _ => none
theorem ei_count {md1 md2 : Md} {apos : Pos} (ha : OI X G W lk Γ a md1 Γ1 ma) (hb : OI X G W (md1.L ++ lk) Γ1 b md2 Γ2 mb) (hs : starEach [b] X.env = [(false, eval b X.env)] := by rfl) (hbase : attributeBase a "count" X.env (eval a X.env) = eval a X.env := by rfl) (hline : (apos.endLine == pos.line) = true := by rfl) :
    EI X G W lk Γ (.Call (.Attribute a "count" apos) [b] [] pos) κ [] Γ2 (mB dCount (mS ma) mb) :=
  PE.imp (pe_m1 PySem.F.slot_str_count PySem.F.type_str_count mt_count ha hb hs hbase hline) fun σ H Q ⟨B, Z, en, fps, C, o⟩ => run2S C (mB_cases o fun d1 d2 d v1 v2 Z2 H2 fps2 en2 ef C2 h1 h2 o => by
    unfold dCount at ef
    split at ef
    · cases ef
      obtain ⟨_, _, _, o1⟩ := Md.any h1
      obtain ⟨_, _, _, o2⟩ := Md.any h2
      exact ⟨_, _, own_str o1, by rw [own_str o2], o _ _ _ _ [] C2 (.sc .int)⟩
    · cases ef)
def dJoin : D → D → Option D
  | .str x, .lst ds => match strsD ds with
    | some ys => if (ys.map (·.length)).sum + ys.length * x.length ≤ lim then some (.str (Txt.join x ys)) else none
    | none => none
  | _, _ => none
theorem ei_join {md1 md2 : Md} {apos : Pos} (ha : OI X G W lk Γ a md1 Γ1 ma) (hb : OI X G W (md1.L ++ lk) Γ1 b md2 Γ2 mb) (hs : starEach [b] X.env = [(false, eval b X.env)] := by rfl) (hbase : attributeBase a "join" X.env (eval a X.env) = eval a X.env := by rfl) (hline : (apos.endLine == pos.line) = true := by rfl) :
    EI X G W lk Γ (.Call (.Attribute a "join" apos) [b] [] pos) κ [] Γ2 (mB dJoin (mS ma) mb) :=
  PE.imp (pe_m1 PySem.F.slot_str_join PySem.F.type_str_join mt_join ha hb hs hbase hline) fun σ H Q ⟨B, Z, en, fps, C, o⟩ => run2S C (mB_cases o fun d1 d2 d v1 v2 Z2 H2 fps2 en2 ef C2 h1 h2 o => by
    unfold dJoin at ef
    split at ef
    · rename_i x ds
      split at ef
      · rename_i ys e2
        split at ef
        · rename_i hz
          cases ef
          obtain ⟨_, _, _, o1⟩ := Md.any h1
          obtain ⟨_, _, _, o2⟩ := Md.any h2
          obtain ⟨p, vs, _, rfl, q1, q2⟩ := own_lst_any o2
          have qv := strsD_v q2 e2
          subst qv
          exact ⟨_, p, ys, own_str o1, rfl, .inl (.inl (.of q1)), Nat.le_trans hz (by decide), o _ _ _ _ [] C2 (.sc .str)⟩
        · cases ef
      · cases ef
    · cases ef)
def dBits : D → Option D
  | .int i => some (.int (Builtin.Int.intBits i : Nat))
  | _ => none
theorem ei_bits {md : Md} {apos : Pos} (ha : OI X G W lk Γ a md Γ1 m) (hbase : attributeBase a "bit_length" X.env (eval a X.env) = eval a X.env := by rfl) (hline : (apos.endLine == pos.line) = true := by rfl) :
    EI X G W lk Γ (.Call (.Attribute a "bit_length" apos) [] [] pos) κ [] Γ1 (m1 dBits m) :=
  PE.imp (pe_bits ha hbase hline) fun σ H Q ⟨B, Z, en, fps, C, o⟩ => ⟨B, Z, en, fps, C, out1 (md := md) o fun d d' v Z2 H2 fps2 en2 ef C2 h2 o => by
    unfold dBits at ef
    split at ef
    · cases ef
      obtain ⟨_, _, _, q⟩ := Md.any h2
      exact ⟨_, own_int q, o _ _ _ _ [] C2 (.sc .int)⟩
    · cases ef⟩
/-! ### text * number -/
def dMulS : D → D → Option D
  | .str x, .int n => if -1000000 ≤ n ∧ n ≤ 1000000 ∧ x.length ≤ 16 then some (.str (Txt.mul x n)) else none
  | _, _ => none
def rMulS : R2 := fun x y H Q => ∃ z n, x = .str z ∧ y = .int n ∧ -1000000 ≤ n ∧ n ≤ 1000000 ∧ z.length ≤ 16 ∧ Q (.str (Txt.mul z n)) H
theorem op_mulS : OpR X (binaryOp .Mult) rMulS := by
  intro pins s σ H x y v u Q I rx ry h
  obtain ⟨z, n, rfl, rfl, h1, h2, h3, q⟩ := h
  obtain ⟨t, rfl⟩ := rx
  obtain ⟨t', rfl⟩ := ry
  exact PySem.SB.mul (PyProof.Rows.mulOk_of 16 1000000 h3 h2 (by omega) (by decide) (by decide)) fun t2 k => ⟨.str _, H, I.tok _, ⟨_, rfl⟩, q⟩
theorem lk_mulS : Lk2 G rMulS dMulS := by
  intro H v1 v2 d1 d2 d Q ⟨_, _, _, o1⟩ ⟨_, _, _, o2⟩ e q
  unfold dMulS at e
  split at e
  · split at e
    · rename_i hz
      cases e
      exact ⟨_, _, own_str o1, own_int o2, hz.1, hz.2.1, hz.2.2, q _ .str⟩
    · cases e
  · cases e
/-! ### isinstance(x, (A, B)) -/
def dIsI2 (T U : String) (d : D) : Option D := (tyD d).map fun t => .bl (isB T t || isB U t)
theorem ei_isi2 {T U : Str} {Ts Us : String} {md : Md} {p p2 p3 p4 : Pos} {kt : Nat} (hK : G.K = X.K) (hT : Ts ∈ ["int", "bool", "str", "list", "tuple"]) (hU : Us ∈ ["int", "bool", "str", "list", "tuple"]) (hg : Gl X "isinstance") (hm : X.mg "isinstance" = none) (hv : bootBuiltins "isinstance" = some (.builtin "isinstance")) (hg2 : Gl X T) (hm2 : X.mg T = none) (hv2 : bootBuiltins T = some (.type Ts)) (hg3 : Gl X U) (hm3 : X.mg U = none) (hv3 : bootBuiltins U = some (.type Us)) (ha : OI X G W lk Γ a md Γ' m)
    (hn2 : T ≠ "__name__" := by decide) (hd2 : (T == ("__debug__" : Str)) = false := by decide) (hn3 : U ≠ "__name__" := by decide) (hd3 : (U == ("__debug__" : Str)) = false := by decide)
    (he : starEach (a :: [.Tuple [.Name T p2, .Name U p3] kt p4]) X.env = (false, eval a X.env) :: starEach [.Tuple [.Name T p2, .Name U p3] kt p4] X.env := by rfl) (he2 : starEach [.Tuple [.Name T p2, .Name U p3] kt p4] X.env = (false, eval (.Tuple [.Name T p2, .Name U p3] kt p4) X.env) :: starEach [] X.env := by rfl) (hpl : (backTo pos (starEach [.Tuple [.Name T p2, .Name U p3] kt p4] X.env)).any (·.1) = false := by rfl)
    (h4 : starEach (.Name T p2 :: [.Name U p3]) X.env = (false, eval (.Name T p2) X.env) :: starEach [.Name U p3] X.env := by rfl) (h5 : starEach (.Name U p3 :: []) X.env = (false, eval (.Name U p3) X.env) :: starEach [] X.env := by rfl) :
    EI X G W lk Γ (.Call (.Name "isinstance" p) [a, .Tuple [.Name T p2, .Name U p3] kt p4] [] pos) κ [] Γ' (m1 (dIsI2 Ts Us) m) :=
  PE.imp (pe_callB call_isiT hg hm hv (pa_cons ha (pa_cons (pe_tup (pa_cons (pe_bltn hg2 hm2 hv2 (show RelV (.ty Ts) (.type Ts) from rfl) hn2 hd2) (pa_cons (pe_bltn hg3 hm3 hv3 (show RelV (.ty Us) (.type Us) from rfl) hn3 hd3) pa_nil h5) h4)) pa_nil he2) he) (by decide) (by decide) he hpl) fun σ H Q ⟨B, Z, en, fps, C, o⟩ => ⟨B, Z, en, fps, C, out1 (md := md) (r := fun v H2 => [V.ty Ts, V.ty Us].length ≤ sizeLine ∧ ∀ p, H2 p = none → rIsiT X.K [v, .ref p] (upd H2 p (.tup [.ty Ts, .ty Us])) Q) o fun d d' v Z2 H2 fps2 en2 ef C2 h2 o => by
    refine ⟨by show 2 ≤ sizeLine; decide, fun p hp => ?_⟩
    unfold dIsI2 at ef
    rw [Option.map_eq_some_iff] at ef
    obtain ⟨t, e1, rfl⟩ := ef
    obtain ⟨Zx, kx, fpx, ow⟩ := Md.any h2
    have ow2 : Own G Zx (upd H2 p (.tup [.ty Ts, .ty Us])) kx v d fpx := own_keep (fun a u q _ => upd_keep hp a u q) (fun a z => ⟨z, fun u q => upd_keep hp a u q⟩) ow fun a _ u q => upd_keep hp a u q
    have hk1 := kit_ty (K := X.K) (kitB_is Ts hT t (tyD_mem e1))
    have hk2 := kit_ty (K := X.K) (kitB_is Us hU t (tyD_mem e1))
    refine ⟨v, p, [.ty Ts, .ty Us], .type t, [.type Ts, .type Us], isB Ts t || isB Us t, rfl, upd_same, .cons (.ty Ts) (.cons (.ty Us) .nil), own_ty hK ow2 e1, kitAny_cons hk1 (fun hb => kitAny_cons hk2 (fun hb2 => by rw [kitAny_nil, hb, hb2]; rfl) fun hb2 => by rw [hb2, Bool.or_true]) (fun hb => by rw [hb, Bool.true_or]), ?_⟩
    exact o _ _ _ _ [] (C2.grow hp) (.sc .bl)⟩
/-! ### list(x) -/
def dList : D → Option D
  | .lst xs => some (.lst xs)
  | .tup xs => some (.lst xs)
  | _ => none
theorem ei_list {p : Pos} (hg : Gl X "list") (hm : X.mg "list" = none) (hv : bootBuiltins "list" = some (.type "list")) (ha : OI X G W lk Γ a (.v L) Γ' m) (he : starEach (a :: []) X.env = (false, eval a X.env) :: starEach [] X.env := by rfl) :
    EI X G W lk Γ (.Call (.Name "list" p) [a] [] pos) 1 [] Γ' (m1 dList m) :=
  PE.imp (pe_callTy call_list_of hg hm hv (pa_cons ha pa_nil he) (by decide) (by decide) he rfl) fun σ H Q ⟨B, Z, en, fps, C, o⟩ => ⟨B, Z, en, fps, C, out1 (md := .v L) o fun d d' v Z2 H2 fps2 en2 ef C2 h2 o => by
    unfold dList at ef
    split at ef
    · cases ef
      obtain ⟨a, vs, rfl, e1, o1⟩ := Vw.lst h2
      exact ⟨a, vs, rfl, .inl (.inl (.of e1)), fun l hl => o _ _ _ _ _ (C2.grow hl) (fresh_lst C2 o1 hl)⟩
    · rename_i xs
      cases ef
      have q : ∃ a vs, v = .ref a ∧ H2 a = some (.tup vs) ∧ OwnL G Z2 H2 0 vs xs [] := by
        rcases h2 with h2 | ⟨b, ws, es, f1, f2, f3, h2, i, hi, ha⟩
        · exact own_tup h2
        · cases f2
      obtain ⟨a, vs, rfl, e1, o1⟩ := q
      exact ⟨a, vs, rfl, .inr (.inl (.of e1)), fun l hl => o _ _ _ _ _ (C2.grow hl) (fresh_lst C2 o1 hl)⟩
    · cases ef⟩
/-! ### enumerate -/
def enumD (ds : List D) : List D := ds.mapIdx fun i d => .tup [.int (i : Nat), d]
theorem live_enum {a : Addr} {vs : List V} {ds : List D} (K : PySem.W.Frag) : Live G (Ite K a) (enumD ds) fun Z H => H a = some (.lst vs) ∧ OwnL G Z H 0 vs ds [] where
  go := fun Z H i ⟨e, o⟩ hi => by
    unfold enumD at hi
    rw [List.length_mapIdx] at hi
    obtain ⟨x, hx⟩ := o.ex0 hi
    exact ⟨vs, x, .inl (.of e), hx⟩
  stop := fun Z H i ⟨e, o⟩ hi => by
    unfold enumD at hi
    rw [List.length_mapIdx] at hi
    exact ⟨vs, .inl (.of e), by rw [o.len]; exact hi⟩
  yld := fun Z H i d x H' ⟨e, o⟩ hd ⟨T, y, e1, e2, e3, hx⟩ => by
    unfold enumD at hd
    rw [List.getElem?_mapIdx] at hd
    cases q : ds[i]? with
    | none => rw [q] at hd; cases hd
    | some d0 =>
      rw [q] at hd
      cases hd
      obtain ⟨v, h1, h2⟩ := o.get0 q
      have q2 := hx vs (.inl (.of e))
      rw [h1] at q2; cases q2
      exact .inr ⟨T, _, _, e1, e2, e3, rfl, OwnL.cons (fp := []) (fps := []) .int (OwnL.cons (fp := []) (fps := []) h2 .nil)⟩
def dLst : D → Option (List D)
  | .lst xs => some (enumD xs)
  | _ => none
theorem ii_enum {p tpos : Pos} {elts : List Expr} {kk : Nat} (hg : Gl X "enumerate") (hm : X.mg "enumerate" = none) (h : OI X G W lk Γ e (.v L) Γ' m) (hs : starEach [e] X.env = [(false, eval e X.env)] := by rfl) (he : starEach (e :: []) X.env = (false, eval e X.env) :: starEach [] X.env := by rfl) :
    II X G W lk Γ (.Tuple elts kk tpos) (.Call (.Name "enumerate" p) [e] [] pos) L Γ' (mIt dLst m) := PI.imp (pi_enum hg hm (pa_cons h pa_nil he) hs) fun σ H R ⟨B, Z, en, fps, C, o⟩ => by
  refine ⟨B, Z, en, fps, C, ?_⟩
  unfold mIt at o
  cases e : m en with
  | bad => rw [e] at o; exact o
  | exc c x => rw [e] at o; exact o
  | ok d en' =>
    rw [e] at o
    dsimp only at o
    intro v Z' H' fps' C' h'
    cases ed : dLst d with
    | none => rw [ed] at o; exact o.elim
    | some ds =>
      rw [ed] at o
      unfold dLst at ed
      split at ed
      · rename_i xs
        cases ed
        obtain ⟨a, vs, e1, e2, e3⟩ := Vw.lst h'
        refine ⟨a, vs, by rw [e1], .inl (.of e2), o _ (fun Z H => H a = some (.lst vs) ∧ OwnL G Z H 0 vs xs []) _ _ _ C' (live_enum _) fun pins Z2 σ2 H2 Γ2 en2 fps2 D2 => ?_⟩
        obtain ⟨s1, s2, s3⟩ := stay_all (L := L) (cfg_pins C' (pins := []) fun _ h => nomatch h) (fun i m => List.mem_append_right _ m) (fun i m => List.mem_append_left _ m) (cfg_pins D2 (pins := []) fun _ h => nomatch h)
        have zz : ∀ a, Z' a → Z2 a ∧ ∀ o, H' a = some o → H2 a = some o := fun a z => ⟨D2.zb a z, (s2 a (.inl z)).2⟩
        refine ⟨?_, ownL_keep s1 zz e3 fun _ h => nomatch h⟩
        rcases h' with h' | ⟨b, ws, es, f1, f2, f3, h', i, hi, ha⟩
        · subst e1
          generalize hx : D.lst xs = dx at h'
          generalize hv : V.ref a = vx at h'
          cases h' with
          | lst z e h => cases hv; exact (zz _ z).2 _ e2
          | _ => cases hx
        · rw [e1] at f1
          cases f1
          exact (s2 a (.inr ⟨i, hi, ha⟩)).2 _ e2
      · cases ed
end
end Im
/-! enumerate(text). -/
namespace Im
open PySem PySem.Spec PyProof.Rows L2
def Itse (x : Str) : It := ⟨fun i _ => i < x.cps.size, fun i H v H' => ∃ T c, v = .ref T ∧ H T = none ∧ x.cps[i]? = some c ∧ H' = upd H T (.tup [.int (i : Nat), .str ⟨#[c]⟩]), fun i _ => x.cps.size ≤ i⟩
theorem draws_str {P : Program} {w : World} {A : Around} (hh : A.handled = none) (it : Addr) (x : Str) (t : Tok) : Draws P w A it [it] x.cps.size (SignAt x) (fun i h => h.IsStrIter it (strIterType x) x t i) := by
  unfold strIterType
  split
  · exact Draws.strAscii hh it x t
  · exact Draws.strWide hh it x t
theorem turn_enumS {P : Program} {w : World} {K : PySem.W.Frag} {elts : List Expr} {kk : Nat} {tpos : Pos} (x : Str) (t : Tok) (e it : Addr) :
    Turn P w K (.Tuple elts kk tpos) (Itse x) [e, it] e (fun i h => (∃ old, IsEnum h e it ((i : Nat) : Int) old) ∧ h.IsStrIter it (strIterType x) x t i ∧ e ≠ it ∧ i ≤ x.cps.size) where
  mem := by simp
  obj := fun i h st b hb => by
    obtain ⟨⟨old, he⟩, ⟨o, ho, hc, hd⟩, _⟩ := st
    have e' : b = e ∨ b = it := by simpa using hb
    rcases e' with z | z
    · rw [z]; exact ⟨_, he, fun v q => nomatch q⟩
    · rw [z]; exact ⟨o, ho, fun v q => by rw [hd] at q; cases q⟩
  keep := fun i h h' st k => by
    obtain ⟨⟨old, he⟩, ⟨o, ho, r⟩, hne, hle⟩ := st
    exact ⟨⟨old, k e (by simp) _ he⟩, ⟨o, k it (by simp) o ho, r⟩, hne, hle⟩
  item := by
    intro X hP hw hK hc i pins s σ H E I hf st hg
    subst hP hw hK
    obtain ⟨⟨old, he⟩, hit, hne, hle⟩ := st
    have hel : e < s.heap.objs.size := Heap.lt_size he
    have hil : it < s.heap.objs.size := by obtain ⟨_, q, _⟩ := hit; exact Heap.lt_size q
    refine wpAny_pyNext_enum_itemD (draws_str (A := X.A.in1) (I.ok.hd hc) it x t) he hit hg hne (by simpa using hne) fun u h' tk hP ho hit' hT hsz hk => ?_
    obtain ⟨c, t2, hcx, rfl⟩ := hP
    refine ⟨_, rfl, wpAny_letOwnedTupleGo_enum (s := { s with heap := h', toks := tk + 1 }) ho fun h'' he' sb => ?_⟩
    have hT2 : h''.get? s.heap.objs.size = some { cls := .type "tuple", data := .seq #[.int i tk, .str ⟨#[c]⟩ t2] } := (sb.2 _ (Nat.ne_of_gt hel)).trans hT
    have new : ObjOk X.prog X.w (upd H s.heap.objs.size (.tup [.int (i : Nat), .str ⟨#[c]⟩])) h'' s.heap.objs.size (.tup [.int (i : Nat), .str ⟨#[c]⟩]) :=
      ⟨by show 2 ≤ sizeLine; decide, [.int i tk, .str ⟨#[c]⟩ t2], .cons ⟨_, rfl⟩ (.cons ⟨_, rfl⟩ .nil), ⟨_, hT2, rfl, _, rfl⟩⟩
    have I1 : Inv X pins σ (upd H s.heap.objs.size (.tup [.int (i : Nat), .str ⟨#[c]⟩])) { s with heap := h'', toks := tk + 1 } :=
      I.turnedNew (ch := [e, it]) (fun b ob hb q => (sb.2 b (fun z => hb (by simp [z]))).trans (hk b ob (fun z => hb (by simp [z])) (fun z => hb (by simp [z])) q)) hf (Nat.le_refl _) new
    refine ⟨.ref s.heap.objs.size, _, I1, rfl, ⟨_, c, rfl, I.hok.fresh (Nat.le_refl _), hcx, rfl⟩, ⟨⟨.str ⟨#[c]⟩ t2, ?_⟩, ?_, hne, hg⟩, fun b hb => ?_⟩
    · have e1 : ((i + 1 : Nat) : Int) = (i : Int) + 1 := by omega
      rw [e1]; exact he'
    · obtain ⟨o, ho', r⟩ := hit'
      exact ⟨o, (sb.2 it (Ne.symm hne)).trans ho', r⟩
    · have hb' : b < s.heap.objs.size := by
        have e' : b = e ∨ b = it := by simpa using hb
        rcases e' with z | z
        · rw [z]; exact hel
        · rw [z]; exact hil
      rw [upd_ne (Nat.ne_of_lt hb')]
      exact (hf b hb).1
  done := by
    intro X hP hw hK hc i pins s σ H E I hf st hg
    subst hP hw hK
    obtain ⟨⟨old, he⟩, hit, hne, hle⟩ := st
    obtain ⟨f0, f1, f2, f3, f4, f5⟩ := hf it (by simp)
    have hi : x.cps.size ≤ i := hg
    refine wpAny_pyNext_enum_endD (draws_str (A := X.A.in1) (I.ok.hd hc) it x t) he (n := x.cps.size) (by rw [Nat.le_antisymm hi hle]; exact hit) fun h' eb => ⟨rfl, I.turned (t' := s.toks) (fun b o hb q => eb b o hb q) f0 f1 f3 f4 f5⟩
  self := fun A i s Q E st h => let ⟨⟨_, he⟩, _⟩ := st; wpAny_pyIter_enum he h
def iEnumS (ta : TA) : TIr := fun σ H R => ta σ H fun vs H1 => ∃ x, vs = [.str x] ∧ R (Itse x) H1
theorem pi_enumS {X : Cx} {e : Expr} {ta : TA} {p pos tpos : Pos} {elts : List Expr} {kk : Nat} (hg : Gl X "enumerate") (hm : X.mg "enumerate" = none) (ha : PA X [e] ta) (hs : starEach [e] X.env = [(false, eval e X.env)] := by rfl) :
    PI X (.Tuple elts kk tpos) (.Call (.Name "enumerate" p) [e] [] pos) (iEnumS ta) := by
  refine ⟨fun pins s σ H R I h => ?_⟩
  refine Call_ (ld_blt I hg hm boot_enumerate (PyProof.Rows.callWith_type1 (thn (ha.run pos pins s σ H _ I h) fun us s1 ⟨vs, H1, I1, r1, q1⟩ => ?_) hs rfl))
  obtain ⟨x, ex, q⟩ := q1
  subst ex
  cases r1 with
  | cons r rr =>
    cases rr
    obtain ⟨t, rfl⟩ := r
    refine call_enumerate_str fun h' he hit hsz hk => wpAny_pyIter_enum he ?_
    have I2 : Inv X pins σ H1 { s1 with heap := h' } := I1.kept (t' := s1.toks) hk
    refine ⟨s1.heap.objs.size + 1, [s1.heap.objs.size + 1, s1.heap.objs.size], _, _, H1, rfl, I2, turn_enumS x t (s1.heap.objs.size + 1) s1.heap.objs.size, ⟨⟨.none, he⟩, hit, Nat.succ_ne_self _, Nat.zero_le _⟩, fun b hb => ?_, q⟩
    have e' : b = s1.heap.objs.size + 1 ∨ b = s1.heap.objs.size := by simpa using hb
    have hle : s1.heap.objs.size ≤ b := by
      rcases e' with z | z
      · rw [z]; exact Nat.le_add_right _ _
      · rw [z]; exact Nat.le_refl _
    exact I1.fpOk hle (I1.hok.fresh hle)
section
variable {G : GI} {B B' : Bs} {W : WX} {lk lk' L L' La Lb : List Nat} {Z Z' : Addr → Prop} {σ σ' : St} {H H' : Hp} {Γ Γ' Γ1 Γ2 Γ3 : List Nat} {en en' : En} {fps fps' : Nat → List Addr} {κ κ' k : Nat} {κs : List Nat} {v : V} {d : D} {ro : RO}
variable {X : Cx} {pos : Pos} {m ma mb mc : EM} {e a b c : Expr} {K : PySem.W.Frag}
theorem live_enumS {z : Str} : Live G (Itse z) (enumD (chars z)) fun _ _ => True where
  go := fun Z H i _ hi => by
    show i < z.cps.size
    unfold enumD chars at hi
    simpa using hi
  stop := fun Z H i _ hi => by
    show z.cps.size ≤ i
    unfold enumD chars at hi
    simpa using hi
  yld := fun Z H i d x H' _ hd ⟨T, c, e1, e2, hc, e3⟩ => by
    unfold enumD chars at hd
    rw [List.getElem?_mapIdx, List.getElem?_map, Array.getElem?_toList, hc] at hd
    cases hd
    exact .inr ⟨T, _, _, e1, e2, e3, rfl, OwnL.cons (fp := []) (fps := []) .int (OwnL.cons (fp := []) (fps := []) .str .nil)⟩
def dStrE : D → Option (List D)
  | .str z => some (enumD (chars z))
  | _ => none
theorem ii_enumS {p tpos : Pos} {elts : List Expr} {kk : Nat} {md : Md} (hg : Gl X "enumerate") (hm : X.mg "enumerate" = none) (h : OI X G W lk Γ e md Γ' m) (hs : starEach [e] X.env = [(false, eval e X.env)] := by rfl) (he : starEach (e :: []) X.env = (false, eval e X.env) :: starEach [] X.env := by rfl) :
    II X G W lk Γ (.Tuple elts kk tpos) (.Call (.Name "enumerate" p) [e] [] pos) [] Γ' (mIt dStrE m) := PI.imp (pi_enumS hg hm (pa_cons h pa_nil he) hs) fun σ H R ⟨B, Z, en, fps, C, o⟩ => by
  refine ⟨B, Z, en, fps, C, ?_⟩
  unfold mIt at o
  cases e : m en with
  | bad => rw [e] at o; exact o
  | exc c x => rw [e] at o; exact o
  | ok d en' =>
    rw [e] at o
    dsimp only at o
    intro v Z' H' fps' C' h'
    cases ed : dStrE d with
    | none => rw [ed] at o; exact o.elim
    | some ds =>
      rw [ed] at o
      unfold dStrE at ed
      split at ed
      · rename_i z
        cases ed
        obtain ⟨_, _, _, q⟩ := Md.any h'
        exact ⟨z, by rw [own_str q], o _ (fun _ _ => True) _ _ _ C' live_enumS fun _ _ _ _ _ _ _ _ => trivial⟩
      · cases ed
end
end Im
/-! Own exceptions over ValueError whose __init__ says super().__init__(value); self.value = value. -/
namespace PySem
namespace BoxX
open PySem.W PySem.Calls PyProof.Rows PySem.HandSPX
def iA (p1 p2 : Pos) (dv : Expr) : Arguments := { posonlyargs := [], args := [{ arg := "self", annotation := none, pos := p1 }, { arg := "value", annotation := none, pos := p2 }], vararg := none, kwonlyargs := [], kw_defaults := [], kwarg := none, defaults := [dv] }
def iB : List Stmt := [.Expr (.Call (.Attribute (.Call (.Name "super" ⟨5, 8, 5, 13⟩) [] [] ⟨5, 8, 5, 15⟩) "__init__" ⟨5, 8, 5, 24⟩) [.Name "value" ⟨5, 25, 5, 30⟩] [] ⟨5, 8, 5, 31⟩) ⟨5, 8, 5, 31⟩, .Assign [.Attribute (.Name "self" ⟨6, 8, 6, 12⟩) "value" ⟨6, 8, 6, 18⟩] (.Name "value" ⟨6, 21, 6, 26⟩) ⟨6, 8, 6, 26⟩]
def iS : Scope := { kind := .function, names := [(PySem.Str.ofString "self", .local), (PySem.Str.ofString "value", .local), (PySem.Str.ofString "__class__", .free), (PySem.Str.ofString "super", .globalImplicit)], isGenerator := false, isCoroutine := false, more := [] }
/-- what the written part says of the base class at D and of its __init__ at fI -/
structure BaseTxt (K : Frag) (prog : Program) (D fI : Addr) : Prop where
  fn : ∃ (oc : Value) (od : Option Addr) (T : Addr) (oT : Obj) (nT : Nat) (kV doc pm : Value) (an : Option Addr) (cda : Addr) (ct : Value) (osl : Array (Option Value)) (cc : Addr) (p1 p2 : Pos) (dv : Expr) (ccl : Value) (cdd : Option Addr) (vs : Array Value) (ccs : Array (Option Value)) (file : Str) (tf : Tok) (cl : Value) (cld : Option Addr) (csl : Array (Option Value)),
    K.lookup fI = some ⟨oc, od, .func (fnX "__init__" "BoxError.__init__" (iA p1 p2 dv) iB iS [("__class__", cc)] (.ref T) kV doc pm an (.ref cda) ct), osl⟩ ∧ codeIn K (.ref cda) "BoxError.__init__" = true ∧
      K.lookup T = some oT ∧ oT.data = .seq #[.none] nT ∧ K.lookup cda = some ⟨ccl, cdd, .fields vs, ccs⟩ ∧ vs[2]? = some (.str file tf) ∧ ((prog.main.file : Str) == file) = true ∧ K.lookup cc = some ⟨cl, cld, .cell (some (.ref D)), csl⟩
  D : ∃ cd, clsIn K D = some cd
  sup : nsIn K mainGlobals "super" = some none
  opq : nsIn K cStatics "thirdparty.any" = some none
  top : (prog.main.scope.names.lookup ("super" : Str)).isSome = false
  fty : typeIn K (.ref fI) = some (.type "function")
/-- what it says of the class C below (or at) D -/
structure ClsTxt (K : Frag) (D fI C : Addr) : Prop where
  ox : L2.OexC K C
  ga : findIn K (.ref C) "__getattribute__" = some (some (.builtin "BaseException.__getattribute__"))
  gg : findIn K (.ref C) "__getattr__" = some none
  no : findIn K (.ref C) "value" = some none
  ini : findIn K (.ref C) "__init__" = some (some (.ref fI))
  sub : mroIn K C (.ref D) = some true
  sup : ks_superIn K C D "__init__" = some (some (.builtin "ValueError.__init__"))
  ve : subIn K (.ref C) (.type "ValueError") = some true
  hd : hasDictIn K C = true
  is : isClsIn K C = true
  te : exmOne K (.ref C) (.ref D) = some true
section
variable {prog : Program} {w : World} {A : Around} {E : Value → Shared → Prop} {R : Result → Shared → Prop} {s : Shared} {K : Frag} {mg mb : Str → Option Value} {C D fI : Addr}
/-- the built-in __init__, bound, called -/
theorem call_mw {h : Heap} {g : Array GenState} {d : Drawn} {t : Nat} {os : OsState} {nm q : Str} {N u e t0 : Addr} {bs bm : List Value} {hdct : Bool} {sn : List Str} {sub : List Value} {ab : Bool} {col : Option Bool} {dd : Option Addr} {k0 k1 k2 k3 k5 : Option Value} {rest : List Value} {Q : Value → Shared → Prop}
    (hC : h.get? C = some (excClassObj nm q C N bs bm hdct sn sub ab col dd k0 k1 k2 k3 k5 "ValueError.__new__")) (he : h.get? e = some (excO C t0)) (hu : h.get? u = some (kxs_mw "ValueError.__init__" e)) (hrest : rest.length ≤ sizeLine)
    (hq : ∀ h' t1, (∀ b o, b ≠ e → h.get? b = some o → h'.get? b = some o) → h'.get? e = some (excO C t1) → Q .none ⟨h', g, d, t, os⟩) :
    wpAny (model prog w) A (call (.ref u) rest) Q E ⟨h, g, d, t, os⟩ := by
  refine wpAny_call (codeAny_of_tree ?_)
  show wpAny _ A.in1 (callAny (.ref u) ⟨rest, []⟩) _ _ _
  simp only [callAny]
  refine wpAny_bind (wpAny_load hu ?_)
  simp only [kxs_mw, show (Value.type "method-wrapper" == Value.type "method" || Value.type "method-wrapper" == Value.type "builtin_function_or_method" || Value.type "method-wrapper" == Value.type "method-wrapper") = true by decide, if_true]
  refine KFB.if_so (by decide) ?_
  refine wpAny_bind (ESX.check_bound F.excBase_ValueError hC he rfl ?_)
  refine wpAny_bind (wpAny_pure (wpAny_pure ?_))
  refine ⟨Code.quiet_builtin _ (by decide +kernel), codeAny_builtin F.excBase_ValueError.initEntry ?_⟩
  rw [Around.under_plainId F.excBase_ValueError.init.plain _]
  wp_walk
  refine hq _ h.objs.size (fun b o hb ho => ?_) ?_
  · rw [Heap.get?_update_other _ _ (Ne.symm hb)]
    exact Heap.get?_push_of_some _ ho
  · rw [Heap.get?_update_self _ (Heap.get?_push_of_some _ he) rfl]
    rfl
/-- what __init__ leaves of a fresh exception at x -/
structure InitEnd (h h' : Heap) (x C dx t1 : Addr) (v : Value) : Prop where
  keep : ∀ b o, b ≠ x → h.get? b = some o → h'.get? b = some o
  obj : h'.get? x = some { cls := .ref C, dict := some dx, data := .fields #[.ref t1, .none, .none, .none, .bool false, .none] }
  dbig : h.objs.size ≤ dx
  dne : dx ≠ x
  ns : h'.Ns1 dx (fun y => if y = "value" then some v else none)
theorem box_init (T : BaseTxt K prog D fI) (TC : ClsTxt K D fI C) {x t0 : Addr} {v : Value} (X : K.In s.heap) (hg : s.heap.Ns mainGlobals mg) (hb : s.heap.Ns builtinsNs mb) (hbs : mb "super" = bootBuiltins "super") (hlim : s.heap.NoLimit) (hx : s.heap.get? x = some (excO C t0)) (hnx : K.lookup x = none) (hroom : A.depth < recursionLimit)
    (hq : ∀ h' tk dx t1, InitEnd s.heap h' x C dx t1 v → R (.ok (.ret .none)) { s with heap := h', toks := tk }) :
    codeAny (model prog w) A (.call (.ref fI) ⟨[.ref x, v], []⟩) R s := by
  obtain ⟨oc, od, T0, oT, nT, kV, doc, pm, an, cda, ct, osl, cc, p1, p2, dv, ccl, cdd, vs, ccs, file, tf, cl, cld, csl, hf, hcd, hT, hTd, hcode, hvs, hfile, hcell⟩ := T.fn
  obtain ⟨nm, q, N, bs, bm, sn, sub, ab, col, dd, k0, k1, k2, k3, k5, hC, hbm⟩ := TC.ox.cls
  obtain ⟨cdD, hD⟩ := T.D
  have hcl : clsIn K C = some { name := nm, bases := bs, mro := .ref C :: bm, ns := N, qualname := q, hasDict := true, slotNames := sn, subclasses := sub, abstract := ab, collection := col, hasDel := false } := by unfold clsIn; rw [hC] <;> rfl
  refine ks_codeAny_call_defAt (fd := fnX "__init__" "BoxError.__init__" (iA p1 p2 dv) iB iS [("__class__", cc)] (.ref T0) kV doc pm an (.ref cda) ct) (body := iB) (binds := [("self", .ref x), ("value", v)]) hroom (X _ _ hf) rfl hlim (codeRec_of X hcd) rfl
    (binds_K X rfl hT hTd (by rfl) (by rfl)) (show ∀ y ∈ iS.names, y.2 ≠ .cell by decide) (fun y hy => ?_) (fun h₁ hns k => ?_) rfl rfl rfl
  · rcases List.mem_cons.mp hy with rfl | hy
    · rfl
    · rcases List.mem_cons.mp hy with rfl | hy
      · rfl
      · cases hy
  have X₁ : K.In h₁ := X.keeps k
  have hx₁ := k _ _ hx
  obtain ⟨oD, hD1, hD2⟩ : ∃ oD, h₁.get? D = some oD ∧ oD.data = .cls cdD := by
    unfold clsIn at hD
    split at hD
    · rename_i c d cd' sl ho
      cases hD
      exact ⟨_, X₁ _ _ ho, rfl⟩
    · cases hD
  have I₁ : InstAt h₁ x (excO C t0) C none := ⟨hx₁, rfl, rfl, trivial⟩
  have m1 : (fun x_1 => List.lookup x_1 [(PySem.Str.ofString "self", Value.ref x), (PySem.Str.ofString "value", v)].reverse) "self" = some (.ref x) := by rfl
  have m2 : (fun x_1 => List.lookup x_1 [(PySem.Str.ofString "self", Value.ref x), (PySem.Str.ofString "value", v)].reverse) "value" = some v := by rfl
  -- super().__init__(value)
  refine ks_wpAt_execs_cons (ks_wpAt_Expr_any (ks_wpAt_MethodCall (pl := _) (ks_wpAt_super_base (ar := { arg := "self", annotation := none, pos := p1 }) rfl rfl (by decide) rfl (X₁ _ _ hf) rfl rfl rfl (X₁ _ _ hcode) rfl hvs hfile T.top ?_)))
  refine ks_loadName_global rfl rfl (loadGlobal_builtin (hg.keeps k) (mg_none_of X hg T.sup) (hb.keeps k) (hbs.trans (by first | rfl | kernel_rfl)) ⟨rfl, ?_⟩)
  refine wpAny_loadName_free rfl rfl rfl ⟨_, X₁ _ _ hcell, rfl⟩ ?_
  refine wpAny_loadName_local rfl rfl hns m1 ?_
  refine ks_wpAny_isType_cls hD1 hD2 ⟨rfl, ?_⟩
  refine ks_wpAny_call_super hD1 hD2 I₁.at_ I₁.cls (fun c e => by cases e) (looks_mroIn X₁ TC.sub) (fun h₂ hso k₂ => ?_)
  have X₂ : K.In h₂ := X₁.keeps k₂
  have hx₂ := k₂ _ _ hx₁
  have I₂ : InstAt h₂ x (excO C t0) C none := ⟨hx₂, rfl, rfl, trivial⟩
  have hsup : alongIn K "__init__" (((Value.ref C :: bm).dropWhile (· != .ref D)).drop 1) = some (some (.builtin "ValueError.__init__")) := by
    have q := TC.sup
    unfold ks_superIn at q
    rw [hcl] at q
    exact q
  refine kxs_getMethod kxs_ValueError hso (looks_opaque X₂ T.opq) (l₀ := .ref C :: bm) (fun A Q E s k q => wpAny_bind ((looks_clsIn X₂ hcl) A _ E s k (wpAny_pure q))) rfl X₂ hsup (I₂.type.andThen (looks_subIn X₂ TC.ve)) (ks_ne X₂ I₂ hcl) (by decide) ?_
  have k₃ : ∀ b o, h₂.get? b = some o → (h₂.push (kxs_mw "ValueError.__init__" x)).get? b = some o := fun b o e => Heap.get?_push_of_some _ e
  have hu : (h₂.push (kxs_mw "ValueError.__init__" x)).get? h₂.objs.size = some (kxs_mw "ValueError.__init__" x) := Heap.get?_push_at rfl rfl
  refine kxs_callWith (i := "ValueError.__init__") (x := x) (by rfl) ?_
  refine evalArgs_plain (args_cons (wpAny_Name (wpAny_loadName_local rfl rfl (hns.keeps fun b o e => k₃ b o (k₂ b o e)) m2 (args_nil ⟨hu, ?_⟩)) (by decide)) (by rfl))
  have kk : ∀ b o, s.heap.get? b = some o → (h₂.push (kxs_mw "ValueError.__init__" x)).get? b = some o := fun b o e => k₃ b o (k₂ b o (k b o e))
  refine call_mw ((X.keeps kk) _ _ hC) (k₃ _ _ hx₂) hu (by show 1 ≤ sizeLine; decide) fun h₄ t1 k₄ hx₄ => ?_
  -- self.value = value
  have hLx : s.heap.objs.size ≠ x := Nat.ne_of_gt (Heap.lt_size hx)
  have hns₄ : h₄.Ns s.heap.objs.size (fun x_1 => List.lookup x_1 [(PySem.Str.ofString "self", Value.ref x), (PySem.Str.ofString "value", v)].reverse) := by
    obtain ⟨o, es, ep, ho, r⟩ := hns
    exact ⟨o, es, ep, k₄ _ _ hLx (k₃ _ _ (k₂ _ _ ho)), r⟩
  have keep₄ : ∀ b o, b ≠ x → s.heap.get? b = some o → h₄.get? b = some o := fun b o hb e => k₄ b o hb (kk b o e)
  have X₄ : K.In h₄ := fun b o e => keep₄ b o (fun z => by
    subst z
    rw [hnx] at e; cases e) (X _ _ e)
  refine wpAt_of_wpAny (wpAny_execs_cons (plainObj_wpAny_Assign_Attribute ?_ (by rfl)))
  refine wpAny_Name (wpAny_loadName_local rfl rfl hns₄ m2 (wpAny_Name (wpAny_loadName_local rfl rfl hns₄ m1 ?_) (by decide))) (by decide)
  refine set_plain X₄ (ox := excO C t1) (od := none) ⟨hx₄, rfl, rfl, trivial⟩ TC.ox.sa ?_
  refine exc_osa X₄ hx₄ hcl (show refsVE (.ref C :: bm) = true from hbm) rfl TC.no (fun h₅ tk₅ dx k₅ dn dne hx₅ hn₅ => ?_)
  refine wpAny_execs_nil (hq h₅ tk₅ dx t1 ⟨fun b o hb e => k₅ b o hb (keep₄ b o hb e), hx₅, ?_, dne, hn₅⟩)
  refine Nat.le_trans ?_ dn
  have z := hns₄.lt
  exact Nat.le_of_lt z
/-- an exception just made -/
structure Made (h h' : Heap) (e C d : Addr) (v : Value) : Prop where
  keep : ∀ b o, h.get? b = some o → h'.get? b = some o
  new : h.objs.size ≤ e
  obj : ∃ oe vs, h'.get? e = some oe ∧ oe.cls = .ref C ∧ oe.dict = some d ∧ oe.data = .fields vs ∧ vs[1]? = some .none
  dbig : h.objs.size ≤ d
  dne : d ≠ e
  ns : h'.Ns1 d (fun y => if y = "value" then some v else none)
theorem box_made (T : BaseTxt K prog D fI) (TC : ClsTxt K D fI C) {v : Value} (X : K.In s.heap) (hg : s.heap.Ns mainGlobals mg) (hb : s.heap.Ns builtinsNs mb) (hbs : mb "super" = bootBuiltins "super") (hlim : s.heap.NoLimit) (hroom : A.depth + 1 < recursionLimit)
    (hq : ∀ h' tk e d, Made s.heap h' e C d v → R (.ok (.ret (.ref e))) { s with heap := h', toks := tk }) :
    codeAny (model prog w) A (.call (.ref C) ⟨[v], []⟩) R s := by
  obtain ⟨nm, q, N, bs, bm, sn, sub, ab, col, dd, k0, k1, k2, k3, k5, hC, hbm⟩ := TC.ox.cls
  obtain ⟨hp, g, dr, tk, os⟩ := s
  have k : ∀ b o, hp.get? b = some o → ((hp.push (kdv_tup [v])).push (excO C hp.objs.size)).get? b = some o := fun b o e => Heap.get?_push_of_some _ (Heap.get?_push_of_some _ e)
  have hget : ((hp.push (kdv_tup [v])).push (excO C hp.objs.size)).get? (hp.objs.size + 1) = some (excO C hp.objs.size) := by heap_get
  have hnx : K.lookup (hp.objs.size + 1) = none := by
    cases e : K.lookup (hp.objs.size + 1) with
    | none => rfl
    | some o =>
      have z : hp.get? (hp.objs.size + 1) = some o := X _ _ e
      exact absurd (Nat.lt_of_succ_lt (Heap.lt_size z)) (Nat.lt_irrefl _)
  refine call_own F.excBase_ValueError (fun X => refsVE_contains X bm hbm) (X _ _ hC) (looks_findIn X TC.ini) (fun self => bind_fn X self T.fty) (by show 1 ≤ sizeLine; decide) ?_
  refine box_init (s := ⟨(hp.push (kdv_tup [v])).push (excO C hp.objs.size), g, dr, tk, os⟩) T TC (X.keeps k) (hg.keeps k) (hb.keeps k) hbs (hlim.keeps k) hget hnx ?_ fun h' tk' dx t1 ⟨k', hx, dn, dne, hns⟩ => ?_
  · show A.depth + 1 < recursionLimit
    exact hroom
  · have old : ∀ b o, hp.get? b = some o → h'.get? b = some o := fun b o e => k' b o (Nat.ne_of_lt (Nat.lt_succ_of_lt (Heap.lt_size e))) (k b o e)
    have z : hp.objs.size + 1 + 1 ≤ dx := by
      first
        | (simpa only [Heap.size_push] using dn)
        | exact dn
        | (have q := dn; rw [Heap.size_push, Heap.size_push] at q; exact q)
    exact ⟨rfl, hq h' tk' (hp.objs.size + 1) dx ⟨old, Nat.le_succ _, ⟨_, _, hx, rfl, rfl, rfl, rfl⟩, Nat.le_trans (Nat.le_trans (Nat.le_succ _) (Nat.le_succ _)) z, dne, hns⟩⟩
end
end BoxX
end PySem
namespace Im
open PySem PySem.Spec PyProof.Rows L2
theorem relO_val {v : V} {v' : Value} (r : RelV v v') (f : Str) : RelO (List.lookup f [(("value" : Str), v)]) (if f = "value" then some v' else none) := by
  by_cases hw : f = "value"
  · subst hw
    rw [if_pos rfl]
    have q : List.lookup ("value" : Str) [(("value" : Str), v)] = some v := by simp [List.lookup]
    rw [q]
    exact r
  · rw [if_neg hw]
    have qw : (f == ("value" : Str)) = false := by simpa using hw
    have q2 : List.lookup f [(("value" : Str), v)] = none := by simp [List.lookup, qw]
    rw [q2]
    trivial
section
variable {X : Cx} {C D fI : Addr}
/-- C(e) -/
def tMkB (C : Addr) (ta : TA) : St → Hp → XK → Prop := fun σ H Q => ta σ H fun vs H1 => ∃ v, vs = [v] ∧ ∀ d, H1 d = none → Q (.ref C) (some d) (upd H1 d (.xd [(("value" : Str), v)]))
theorem pmk_box {a : Expr} {ta : TA} {p pos : Pos} {k : Nat} {x : Str} (T : PySem.BoxX.BaseTxt X.K X.prog D fI) (TC : PySem.BoxX.ClsTxt X.K D fI C) (hr : Room k X.A) (hm : X.mg x = some (.ref C)) (ha : PA X [a] ta) (hg : Gl X x)
    (hdb : (x == ("__debug__" : Str)) = false := by decide) (he : starEach (a :: []) X.env = (false, eval a X.env) :: starEach [] X.env := by rfl) (hpl : (backTo pos (starEach [] X.env)).any (·.1) = false := by rfl) :
    PMk X (.Call (.Name x p) [a] [] pos) (tMkB C ta) := by
  intro pins s σ H Q I h
  refine wpAny_Call_Name_kw (ld_glob I hg hm ?_ hdb)
  refine PySem.W.callWith_K (h₀ := X.base) I.ok.mod.kin TC.ox.kC (thn (ha.run pos pins s σ H _ I h) fun us s1 hh => ?_) he hpl
  obtain ⟨vs, H1, I1, r1, v, ev, q1⟩ := hh
  subst ev
  refine ⟨I1.kIn, ?_⟩
  cases r1 with
  | cons rv rn =>
    rename_i v' us'
    cases rn
    show wpAny _ _ (call (.ref C) [v']) _ _ _
    have hlim := I1.nolimit
    have hM := I1.ok.mod
    have hbk := I1.bk
    obtain ⟨mb, hb1, hb2⟩ := hM.blt
    obtain ⟨hp, g, dr, tk, os⟩ := s1
    refine wpAny_call (PySem.BoxX.box_made T TC I1.kIn (hM.glob.keeps hbk) (hb1.keeps hbk) (hb2 "super" (by decide +kernel)) hlim (by have := hr.dp; omega) fun h' tk' e d M => ?_)
    show MkP X pins σ Q (.ref e) ⟨h', g, dr, tk', os⟩
    obtain ⟨oe, fv, hoe, hc, hd, hdat, h1⟩ := M.obj
    have hns := M.ns
    obtain ⟨G', g1, g2⟩ := restrict h' fun b => decide (b ≠ e)
    have gk : ∀ b, b ≠ e → G'.get? b = h'.get? b := fun b hb => g1 b (decide_eq_true hb)
    have ge : G'.get? e = none := g2 e (by simp)
    have old : ∀ b o, hp.get? b = some o → G'.get? b = some o := fun b o q => (gk b (Nat.ne_of_lt (Nat.lt_of_lt_of_le (Heap.lt_size q) M.new))).trans (M.keep b o q)
    have ob : ObjOk X.prog X.w (upd H1 d (.xd [(("value" : Str), v)])) G' d (.xd [(("value" : Str), v)]) :=
      ⟨_, hns.at (fun o q => (gk d M.dne).trans q), fun f => relO_val rv f⟩
    have J : Inv X pins σ (upd H1 d (.xd [(("value" : Str), v)])) ⟨G', g, dr, tk', os⟩ := I1.laid (t' := tk') old M.dbig ob
    refine ⟨e, oe, fv, ⟨G', g, dr, tk', os⟩, _, .ref C, some d, rfl, J, fun b o q => ?_, ge, hoe, ⟨hc, hd⟩, hdat, h1, ?_, rfl, I1.bare, raises_own TC.ox.exC TC.ox.tyC, q1 d (I1.hok.fresh M.dbig)⟩
    · by_cases hb : b = e
      · have q' : G'.get? b = some o := q
        rw [hb, ge] at q'; cases q'
      · exact (gk b hb).symm.trans q
    · rw [upd_ne (Ne.symm M.dne)]
      exact I1.hok.fresh M.new
end
section
variable {G : GI} {B B' : Bs} {W : WX} {lk lk' L L' La Lb : List Nat} {Z Z' : Addr → Prop} {σ σ' : St} {H H' : Hp} {Γ Γ' Γ1 Γ2 Γ3 : List Nat} {en en' : En} {fps fps' : Nat → List Addr} {κ κ' k : Nat} {κs : List Nat} {v : V} {d : D} {ro : RO}
variable {X : Cx} {pos : Pos} {m ma mb mc : EM} {e a b c : Expr} {C Da fI : Addr}
def mRaise (c : Str) (m : EM) : SM := fun en => match m en with
  | .ok d _ => .exc c d
  | .exc c x => .exc c x
  | .bad => .bad
/-- raise C(e); e's value stands still -/
theorem si_raise {x : Str} {p p2 : Pos} {k : Nat} (hc : X.calm = true) (hW : WFree W) (T : PySem.BoxX.BaseTxt X.K X.prog Da fI) (TC : PySem.BoxX.ClsTxt X.K Da fI C) (hr : Room k X.A) (hm : X.mg x = some (.ref C)) (hC : G.cls x = some C) (hg : Gl X x) (tk : Takes X W) (he : EI X G W lk Γ e 0 [] Γ1 m)
    (hdb : (x == ("__debug__" : Str)) = false := by decide) (hs : starEach (e :: []) X.env = (false, eval e X.env) :: starEach [] X.env := by rfl) (hpl : (backTo p2 (starEach [] X.env)).any (·.1) = false := by rfl) :
    SI X G W lk ro Γ (.Raise (some (.Call (.Name x p) [e] [] p2)) none pos) Γ' (mRaise x m) :=
  PS.imp (ps_raise hc tk (pmk_box T TC hr hm (pa_cons he pa_nil hs) hg hdb hs hpl)) fun Dd σ H ⟨B, Z, en, fps, P, C1, o⟩ => by
    refine ⟨B, Z, en, fps, C1, ?_⟩
    unfold mRaise at o
    cases em : m en with
    | bad => rw [em] at o; exact o
    | exc c x => rw [em] at o; exact fun Cc dd H' y => o Cc dd σ H' y
    | ok d en' =>
      rw [em] at o
      intro v Z' H' fps' fp C' h'
      refine ⟨v, rfl, fun dd hd => ?_⟩
      have q := h'.own
      have z := q.z0
      rw [z] at q
      have C2 := C'.grow (o := .xd [(("value" : Str), v)]) hd
      have q2 : Own G Z' (upd H' dd (.xd [(("value" : Str), v)])) 0 v d [] := (own_keep (fun a u q _ => upd_keep hd a u q) (fun a z => ⟨z, fun u q => upd_keep hd a u q⟩) q fun a m => nomatch m).monoZ fun a z => Zl_nil.mp z
      refine o C dd σ _ ⟨hC, ⟨v, Z', upd_same, q2, C2.zb, C2.zn, C2.zt⟩, C2.keep, C2.tab⟩
end
end Im
/-! try: .. except X as n: y = n. The exception is tracked behind. -/
namespace Im
open PySem PySem.Spec PyProof.Rows L2
/-- an exception of the class cls at a, its dict d -/
def ExAt (cls : Value) (d : Option Addr) (a : Addr) : HO := .ext fun h => ∃ (oe : Obj) (vs : Array Value), h.get? a = some oe ∧ Zc cls d oe ∧ oe.data = .fields vs
theorem exAt_ok {P : Program} {w : World} {H : Hp} {h : Heap} {a : Addr} {cls : Value} {d : Option Addr} {oe : Obj} {vs : Array Value} (e : h.get? a = some oe) (z : Zc cls d oe) (f : oe.data = .fields vs) : ObjOk P w H h a (ExAt cls d a) :=
  ⟨⟨oe, vs, e, z, f⟩, ⟨oe, e⟩, fun _ _ ⟨o, v, q, r⟩ k => ⟨o, v, k o q, r⟩⟩
theorem exAt_at {P : Program} {w : World} {H : Hp} {h : Heap} {a : Addr} {cls : Value} {d : Option Addr} (x : HOk P w H h) (e : H a = some (ExAt cls d a)) : ∃ (oe : Obj) (vs : Array Value), h.get? a = some oe ∧ Zc cls d oe ∧ oe.data = .fields vs := by
  have y : ObjOk P w H h a (.ext fun h => ∃ (oe : Obj) (vs : Array Value), h.get? a = some oe ∧ Zc cls d oe ∧ oe.data = .fields vs) := x a _ e
  exact y.1
section
variable {X : Cx} {pins : List (Addr × Obj)} {σ : L2.St} {H : Hp} {s sI : Shared} {a : Addr} {o : HO}
/-- an object that was not there at the entry is tracked -/
theorem Inv.track (I : L2.Inv X pins σ H s) (hn : H a = none) (h0 : X.s_0.heap.get? a = none) (hL : a ≠ X.env.locals) (hc : ∀ x c, X.env.cells.lookup x = some c → c ≠ a) (hp : ∀ p ∈ X.pn ++ pins, p.1 ≠ a) (new : ObjOk X.prog X.w (upd H a o) s.heap a o) : L2.Inv X pins σ (upd H a o) s where
  ok := I.ok
  os := I.os
  bare := I.bare
  base := {
    keep := I.base.keep
    slot := I.base.slot
    free := fun b u q n x => by
      rw [upd_ne fun z => by rw [z, h0] at q; cases q]
      exact I.base.free b u q n x
    there := I.base.there
    tups := fun b xs q => by
      have y := I.base.tups b xs q
      rw [upd_ne (ne_of_none y hn)]; exact y
    frzs := fun b u xs q => by
      have y := I.base.frzs b u xs q
      rw [upd_ne (ne_of_none y hn)]; exact y
    tbls := fun b ps q => by
      obtain ⟨more, y⟩ := I.base.tbls b ps q
      exact ⟨more, by rw [upd_ne (ne_of_none y hn)]; exact y⟩ }
  loc := I.loc
  cell := I.cell
  free := by rw [upd_ne (Ne.symm hL)]; exact I.free
  freeC := fun x c e => by rw [upd_ne (hc x c e)]; exact I.freeC x c e
  pin := fun p m => by
    obtain ⟨q1, q2, q3⟩ := I.pin p m
    exact ⟨q1, by rw [upd_ne (hp p m)]; exact q2, q3⟩
  hok := I.hok.laidN (fun _ _ e => e) hn new
  len := I.len
variable {x n y : Str} {c : Value} {i j : Nat} {body : List Stmt} {np pos pos' py pn2 sp : Pos} {tb : WX → TS} {Wout : WX}
/-- what the clause «except x as n: y = n» wishes: the exception stands in the slot j, tracked -/
def wKeep (K : PySem.W.Frag) (c : Value) (i j : Nat) (Wout : WX) (D : Ends) : WX := fun cls d σ H =>
  ∃ b, PySem.W.exmOne K cls c = some b ∧ (b = true → ∀ a, H a = none → D.nx (((σ.set i (some (.ref a))).set j (some (.ref a))).set i none) (upd H a (ExAt cls d a))) ∧ (b = false → Wout cls d σ H)
theorem ps_try_keep (hs : X.stack = X.env :: X.outer) (hf : X.env.frame = some X.env.locals) (hex : X.ex = []) (hN : X.N.Nodup) (hi : X.N[i]? = some n) (hln : X.env.kindOf n = some .local) (hj : X.N[j]? = some y) (hlj : X.env.kindOf y = some .local) (hc : Names X x c) (tk : Takes X Wout)
    (hdn : (n == ("__debug__" : Str)) = false) (hdc : (n == ("__classdict__" : Str)) = false)
    (hsw : ∀ env : Env, swapsWith (.Name n pn2) (some (.Name y py)) sp.line env = pure false)
    (hb : ∀ (W : WX) (pn : List (Addr × Obj)) (xe : Value → Shared → Prop), Takes (X.tr pn xe) W → PassesOwn (model X.prog X.w) X.A X.env xe → PSs (X.tr pn xe) body (tb W)) :
    PS X (.Try body [.ExceptHandler (some (.Name x np)) (some n) [.Assign [.Name y py] (.Name n pn2) sp] pos'] [] [] pos) (fun D σ H => tb (wKeep X.K c i j Wout D) D σ H) := by
  refine ⟨fun pins s σ H D I h => ?_⟩
  have ok := I.ok
  have hfr : X.A.frames = some (X.env :: X.outer) := by rw [ok.frames, hs]
  refine wpAny_Try_except ?_
  refine wpAny_mono ((hb (wKeep X.K c i j Wout D) (X.pn ++ pins) (fun e s₁ => wpAny (model X.prog X.w) X.A (noteFrame e X.env) (fun _ s₂ => wpAny (model X.prog X.w) X.A (setFlight e none) (fun _ s₃ =>
    wpAny (model X.prog X.w) X.A (handleBy e X.env [.ExceptHandler (some (.Name x np)) (some n) [.Assign [.Name y py] (.Name n pn2) sp] pos']) (SP X pins D) X.xe s₃) X.xe s₂) X.xe s₁) (fun u s' xx => ?_) PassesOwn.looking).run [] s σ H D (I.toTry _) h) (fun f s1 hsp => ?_) (fun e s1 he => he)
  · obtain ⟨a, B, sI, pins', σ', H', cls, d, rfl, J', nb, up, sky, na, os, ag, b, hb1, hyes, hno⟩ := xx
    have J : L2.Inv X pins σ' H' sI := J'.ofTry ok
    have sky' : Sky B (X.env :: X.outer) a (Zc cls d) X.env.locals s'.heap := by rw [← hs]; exact sky
    show wpAny (model X.prog X.w) X.A (noteFrame (.ref a) X.env) _ _ _
    refine Sky.land Zc.steady hfr hf sky' fun h3 fl3 up3 => ?_
    have J3 : L2.Inv X pins σ' H' { s' with heap := h3 } := J.landed nb fl3.1 (up.trans up3) os ag
    obtain ⟨oe3, vs3, he3, hz3, hd3⟩ := fl3.there
    have nfr : a ∉ frs (X.env :: X.outer) := fun hm => by
      obtain ⟨_, o', e', hnf⟩ := fl3.2.2.1.mem hm
      rw [he3] at e'; cases e'
      exact hnf _ hd3
    have aI : sI.heap.get? a = none := by
      cases q : sI.heap.get? a with
      | none => rfl
      | some o =>
        have z := nb a o q (by rw [hs]; exact nfr)
        rw [fl3.2.1] at z; cases z
    have nL : a ≠ X.env.locals := fun z => nfr (List.mem_filterMap.mpr ⟨X.env, List.mem_cons_self, by rw [hf, z]⟩)
    have nF : a ∉ X.fs := fun hm => by
      obtain ⟨e, he, q⟩ := List.mem_filterMap.mp hm
      exact nfr (List.mem_filterMap.mpr ⟨e, List.mem_cons_of_mem _ he, q⟩)
    have n0 : X.s_0.heap.get? a = none := by
      cases q : X.s_0.heap.get? a with
      | none => rfl
      | some o =>
        obtain ⟨o', e'⟩ := J.base.there a o q (by rw [hex]; simp)
        rw [aI] at e'; cases e'
    have nC : ∀ x c, X.env.cells.lookup x = some c → c ≠ a := fun x c e z => by
      obtain ⟨v, o, q, _⟩ := J.cell x c e
      rw [z, aI] at q; cases q
    have nP : ∀ p ∈ X.pn ++ pins, p.1 ≠ a := fun p m z => by
      have q := (J.pin p m).1
      rw [z, aI] at q; cases q
    have S3 := J3.suite he3 hd3 na nL nF
    refine wpAny_handleBy_cons (codeAny_handlers_test ?_) (by intro q; cases q)
    have LT : PySem.W.Looks (model X.prog X.w) h3 (typeOf (.ref a)) cls := fun A Q E s k q => wpAny_typeOf_ref (k _ _ he3) (by rw [hz3.1]; exact q)
    have LM := PySem.W.exm_one (M := model X.prog X.w) (J3.kIn) LT hb1
    have test : ∀ {Q : Value → Shared → Prop} {E : Value → Shared → Prop}, Q c { s' with heap := h3 } → wpAny (model X.prog X.w) (X.A.mark (some (.ref a))) (eval (.Name x np) X.env) Q E { s' with heap := h3 } := fun {Q E} q => by
      obtain ⟨hg, hdbg, hm | ⟨hm, hv, hnn⟩⟩ := hc
      · exact ld_glob (X := X.suite a ((a, oe3) :: (X.pn ++ pins))) S3 hg hm q hdbg
      · exact ld_blt (X := X.suite a ((a, oe3) :: (X.pn ++ pins))) S3 hg hm hv q hnn hdbg
    refine test (LM.here ?_)
    cases b with
    | true =>
      refine codeAny_handlers_suite_as ?_
      refine HandSPX.lands_againZ fl3 fun h4 fl4 up4 => ?_
      have J4 : L2.Inv X pins σ' H' { s' with heap := h4 } := J.landed nb fl4.1 ((up.trans up3).trans up4) os ag
      obtain ⟨oe4, vs4, he4, hz4, hd4⟩ := fl4.there
      have S4 := J4.suite he4 hd4 na nL nF
      have hle : σ'.length = X.N.length := S4.len
      have hil : i < σ'.length := by rw [hle]; exact (List.getElem?_eq_some_iff.mp hi).1
      refine store_ok (X := X.suite a ((a, oe4) :: (X.pn ++ pins))) (v := .ref a) S4 hN hi (.inl hln) rfl (fun s5 S5 => ?_) (.inr hln)
      have ps := ps_set (X := X.suite a ((a, oe4) :: (X.pn ++ pins))) (pos := sp) (pos' := py) hN hj (.inl hlj) (pe_var (pos := pn2) hi (.inl hln) hdn hdc) (hsw _) (.inr hlj)
      refine wpAny_mono ((pss_one ps).run [] s5 _ H' { nx := fun σ6 H6 => σ6 = (σ'.set i (some (.ref a))).set j (some (.ref a)) ∧ H6 = H', rt := fun _ _ => False } S5 ⟨.ref a, List.getElem?_set_self hil, rfl, rfl⟩) (fun f s6 hsp => ?_) (fun _ _ z => False.elim z)
      cases f with
      | next =>
        obtain ⟨σ6, H6, S6, rfl, rfl⟩ := hsp
        obtain ⟨he6, _⟩ := S6.pin (a, oe4) (List.mem_append_left _ List.mem_cons_self)
        have T6 : L2.Inv X pins _ (upd H6 a (ExAt cls d a)) s6 := Inv.track (S6.unsuite ok) na n0 nL nC nP (exAt_ok he6 hz4 hd4)
        exact gone_ok T6 hN hi hln fun s7 J7 => ⟨_, _, J7, hyes rfl a na⟩
      | brk =>
        obtain ⟨σ6, H6, S6, q6⟩ := hsp
        exact (show False from q6).elim
      | cont =>
        obtain ⟨σ6, H6, S6, q6⟩ := hsp
        exact (show False from q6).elim
      | ret u =>
        obtain ⟨v6, σ6, H6, S6, r6, q6⟩ := hsp
        exact (show False from q6).elim
    | false =>
      show wpAny _ X.A (handleBy (.ref a) X.env []) _ _ _
      refine wpAny_handleBy_nil ?_
      obtain ⟨k1, k2, k3, oe, vs, T, oT, ts', he, hz, hd, h1, hr⟩ := id fl3
      unfold PySem.passOn
      refine wpAny_bind (wpAny_field he hd h1 ?_)
      rw [if_neg (show ¬ ((Value.ref T == Value.none) = true) from by simp)]
      have fin : wpAny (model X.prog X.w) X.A (setFlight (.ref a) X.env.frame) (fun _ s4 => wpAny (model X.prog X.w) X.A (throw (.ref a) : Sem Flow) (SP X pins D) X.xe s4) X.xe { s' with heap := h3 } := by
        rw [hf]
        refine HandSPX.setFlight_upZ fl3 fun h4 hh4 up4 => wpAny_throw (tk _ _ ?_)
        exact ⟨a, B, sI, pins, σ', H', cls, d, rfl, J, nb, (up.trans up3).trans up4, .inr (.inr (by rw [hs]; exact hh4)), na, os, ag, hno rfl⟩
      first
        | exact wpAny_bind (wpAny_pure (wpAny_bind fin))
        | exact wpAny_bind fin
  · cases f with
    | next =>
      obtain ⟨σ', H', J', q⟩ := hsp
      exact wpAny_execs_nil ⟨σ', H', J'.ofTry ok, q⟩
    | brk =>
      obtain ⟨σ', H', J', q⟩ := hsp
      exact ⟨σ', H', J'.ofTry ok, q⟩
    | cont =>
      obtain ⟨σ', H', J', q⟩ := hsp
      exact ⟨σ', H', J'.ofTry ok, q⟩
    | ret u =>
      obtain ⟨v, σ', H', J', r, q⟩ := hsp
      exact ⟨v, σ', H', J'.ofTry ok, r, q⟩
end
end Im
/-! A tracked exception asked: isinstance, its value; the statement try. -/
namespace Im
section
open PySem PySem.Spec PySem.Calls PyProof.Rows PySem.W
variable {prog : Program} {w : World} {A : Around} {E : Value → Shared → Prop} {s : Shared} {K : Frag} {x Dc : Addr} {ox : Obj} {od : Option Obj}
theorem find_data {C : Addr} {name : Str} {a g : Value} {od : Option Obj} (hc : (clsIn K C).isSome = true) (ha : findIn K (.ref C) name = some (some a)) (hg : specialIn K a "__get__" = some (some g)) (ht : takesIn K a = some true) : findObj K C od name = some (.bind g a) := by
  obtain ⟨cd, hc⟩ := Option.isSome_iff_exists.mp hc
  unfold findObj
  rw [hc, Option.bind_some, ha, Option.bind_some]
  simp [hg, ht]
/-- x.__class__, x an exception with or without a dict -/
theorem exc_class {Q : Option Value → Shared → Prop} (C : L2.ExcC K Dc) (X : K.In s.heap) (I : InstAt s.heap x ox Dc od) (h : Q (some (.ref Dc)) { s with toks := s.toks + 1 }) : wpAny (model prog w) A (getAttr? (.ref x) "__class__") Q E s := by
  have hf : findObj K Dc od "__class__" = some (.bind (.builtin "getset_descriptor.__get__") (.builtin "object.__class__")) := find_data (by obtain ⟨cd, hc, _⟩ := any_some C.hd; rw [hc]; rfl) C.ha C.hn C.ht
  obtain ⟨hp, g, d, t, os⟩ := s
  have L0 := I.type (M := model prog w)
  have L1 := looks_findIn (M := model prog w) X C.hg
  have L2 := looks_findIn (M := model prog w) X C.hk
  have L3 := looks_find (M := model prog w) X I hf
  have sub : Looks (model prog w) hp (isInstance (.ref x) (.type "BaseException")) true := L0.andThen (looks_subIn X C.hs)
  have hx2 : (Value.builtin "BaseException.__getattribute__" == Value.builtin "object.__getattribute__") = false := by decide +kernel
  have hx1 : (onTheHeap (Value.ref Dc) && Value.builtin "BaseException.__getattribute__" == Value.builtin "object.__getattribute__") = false := by rw [hx2]; rfl
  have hx0 : (false && onTheHeap (Value.builtin "BaseException.__getattribute__")) = false := rfl
  unfold getAttr? getAttrBy? getAttrBy
  refine wpAny_bind (wpAny_mkText (wpAny_bind (wpAny_attempt (wpAny_holding (wpAny_bind (L0.at (wpAny_bind (L1.at ?_))))))))
  show wpAny _ _ (if (onTheHeap (Value.ref Dc) && Value.builtin "BaseException.__getattribute__" == Value.builtin "object.__getattribute__") = true then _ else _) _ _ _
  rw [hx1, if_neg Bool.false_ne_true]
  unfold getAttrByItsOwn hookBefore
  refine wpAny_bind ?_
  rw [if_pos (show onTheHeap (Value.ref Dc) = true from rfl)]
  refine L2.at ?_
  refine wpAny_bind (wpAny_attempt (wpAny_holding ?_))
  unfold callGetattribute
  rw [hx0, if_neg Bool.false_ne_true]
  unfold boundAndCalled
  rw [PySem.F.excAttr_ValueError.ga.bind (.ref x)]
  refine wpAny_bind (wpAny_pure ?_)
  show wpAny _ _ (call (.builtin "BaseException.__getattribute__") [.ref x, .str "__class__" t]) _ _ _
  refine wpAny_call (codeAny_call_builtin PySem.F.excAttr_ValueError.ga.plain PySem.F.entry_bexc_ga ?_)
  refine @check_slot (model prog w) _ _ ⟨hp, g, d, t + 1, os⟩ "BaseException.__getattribute__" "BaseException" "__getattribute__" (.ref x) [.str "__class__" t] [] _ (by decide +kernel) (by decide +kernel) sub (PySem.F.args_bexc_ga (.ref x) (.str "__class__" t)) ?_
  unfold Builtin.«object.__getattribute__»
  refine wpAny_bind (wpAny_of_eq (a := ((Value.ref x : Value), [Value.str "__class__" t])) (by first | rfl | (simp only [slotArgs]; rfl)) ?_)
  refine wpAny_bind (wpAny_pure (wpAny_bind (L0.at (wpAny_bind (L3.at ?_)))))
  show wpAny _ _ (holding [Value.builtin "object.__class__"] (call (.builtin "getset_descriptor.__get__") [.builtin "object.__class__", .ref x, .ref Dc]) >>= ret) _ _ _
  refine wpAny_bind (wpAny_holding (wpAny_call (class_get (s := ⟨hp, g, d, t + 1, os⟩) (ox := ox) (od := od) X I C.hm ?_)))
  refine wpAny_pure ?_
  show wpAny _ _ (handedOut (.ref Dc)) _ _ _
  rw [handedOut_of (v := .ref Dc) rfl]
  first
    | exact wpAny_pure (wpAny_pure h)
    | exact wpAny_pure h
    | exact wpAny_pure (wpAny_bind (wpAny_pure (wpAny_pure h)))
theorem kitx_exc2 (C : L2.ExcC K Dc) : KitX K (.ref x) (.ref Dc) (fun h => ∃ ox od, InstAt h x ox Dc od) where
  ty := fun _ _ _ ⟨_, _, I⟩ => I.type
  it := fun _ _ X _ => by
    obtain ⟨cdD, hcD, _⟩ := any_some C.hd
    unfold clsIn at hcD
    split at hcD
    · rename_i c' d' cd' sl' ho
      intro A' Q' E' s' k q
      unfold isType loadHead
      exact wpAny_bind (wpAny_loadPart (k _ _ (X _ _ ho)) (wpAny_pure q))
    · cases hcD
  ne := fun h tp dd its n sl X htp => by
    obtain ⟨cdD, hcD, _⟩ := any_some C.hd
    refine Bool.eq_false_iff.mpr fun q => ?_
    have e : Dc = tp := Value.ref.inj (beq_iff_eq.mp q)
    subst e
    unfold clsIn at hcD
    split at hcD
    · rename_i c' d' cd' sl' ho
      have z := (X _ _ ho).symm.trans htp
      cases z
    · cases hcD
  ca := fun X ⟨_, _, I⟩ k => exc_class C X I k
end
open PySem PySem.Spec PyProof.Rows L2
/-- what the data says of exceptions -/
def excG (cls : Str → Option Addr) : Hp → Addr → Str → V → Prop := fun H a c v => ∃ C dd, cls c = some C ∧ H a = some (ExAt (.ref C) (some dd) a) ∧ H dd = some (.xd [(("value" : Str), v)])
/-- the tables; what is known of a closure, of a tag -/
structure ClT where
  T : List (Addr × Str)
  cl : Hp → Addr → Nat → List V → Prop
  st : ∀ H H' a n vs, StayI H H' → cl H a n vs → cl H' a n vs
def ClT.none : ClT := ⟨[], fun _ _ _ _ => False, fun _ _ _ _ _ _ h => h⟩
def mkG (K : PySem.W.Frag) (fn cls : Str → Option Addr) (cl : ClT) : GI where
  K := K
  T := cl.T
  fn := fn
  cls := cls
  exc := excG cls
  clo := cl.cl
  excS := fun H H' a c v s ⟨C, dd, h1, h2, h3⟩ => ⟨C, dd, h1, s _ _ h2 (fun z => z), s _ _ h3 fun z => z⟩
  cloS := cl.st
section
variable {X : Cx} {pins : List (Addr × Obj)} {σ : L2.St} {H : Hp} {s : Shared} {a C dd : Addr} {fs : List (Str × V)}
theorem exc_inst (I : L2.Inv X pins σ H s) (h2 : H a = some (ExAt (.ref C) (some dd) a)) (h3 : H dd = some (.xd fs)) : ∃ (ox od : Obj) (mA : Str → Option Value), PySem.W.InstAt s.heap a ox C (some od) ∧ (∀ f, RelO (fs.lookup f) (mA f)) ∧ ∀ n, PySem.W.lookIn n od = some (mA n) := by
  obtain ⟨oe, vs, e1, z, hd⟩ := exAt_at I.hok h2
  have hx : ObjOk X.prog X.w H s.heap dd (.xd fs) := I.hok dd _ h3
  obtain ⟨mA, hns, hr⟩ := hx
  obtain ⟨od, ho, hl⟩ := lookIn_ns hns
  exact ⟨oe, od, mA, ⟨e1, z.1, by unfold PySem.W.notCls; rw [hd] <;> rfl, by rw [z.2]; exact ho⟩, hr, hl⟩
/-- isinstance(e, C2), e a tracked exception or a plain value -/
def rIsX (K : PySem.W.Frag) (C2 : Addr) : List V → Hp → VK → Prop := fun xs H Q =>
  (∃ a C dd fs b, xs = [.ref a, .ref C2] ∧ H a = some (ExAt (.ref C) (some dd) a) ∧ H dd = some (.xd fs) ∧ ExcC K C ∧ PySem.W.kitOne K (.ref C) (.ref C2) = some b ∧ Q (.bl b) H) ∨ rIsi K xs H Q
theorem call_isX {C2 : Addr} : CallR X (.builtin "isinstance") (rIsX X.K C2) := by
  intro pins s σ H xs us Q I r h
  rcases h with ⟨a, C, dd, fs, b, rfl, h2, h3, hC, e, q⟩ | h
  · obtain ⟨u1, u2, rfl, r1, r2⟩ := vals2 r
    cases (show u1 = Value.ref a from r1)
    cases (show u2 = Value.ref C2 from r2)
    obtain ⟨ox, od, mA, J, _, _⟩ := exc_inst I h2 h3
    exact PySem.W.kia_one (kitx_exc2 hC) I.kIn ⟨ox, _, J⟩ e (fun z => nomatch z) fun tk => ⟨.bl b, H, I.kept (t' := tk) fun _ _ z => z, rfl, q⟩
  · exact call_isi pins s σ H xs us Q I r h
/-- e.f, e a tracked exception -/
def tXv (K : PySem.W.Frag) (n : Str) (te : TE) : TE := fun σ H Q => te σ H fun x H1 => ∃ a C dd fs v, x = .ref a ∧ H1 a = some (ExAt (.ref C) (some dd) a) ∧ H1 dd = some (.xd fs) ∧ XfC K C ∧ PySem.W.findIn K (.ref C) n = some none ∧ fs.lookup n = some v ∧ Q v H1
theorem pe_xv {e : Expr} {te : TE} {pos : Pos} {n : Str} (he : PE X e te) (hb : attributeBase e n X.env (eval e X.env) = eval e X.env := by rfl) : PE X (.Attribute e n pos) (tXv X.K n te) := by
  refine ⟨fun pins s σ H Q I h => ?_⟩
  refine attr_of hb (thn (he.run pins s σ H _ I h) fun u s1 hh => ?_)
  obtain ⟨x, H1, I1, rx, a, C, dd, fs, v, ex, h2, h3, T, hno, l, q⟩ := hh
  subst ex
  obtain rfl : u = Value.ref a := rx
  obtain ⟨ox, od, mA, J, hr, hl⟩ := exc_inst I1 h2 h3
  obtain ⟨u, hu, ru⟩ := RelO.some_of (v := v) (o := mA n) (by rw [← l]; exact hr n)
  exact HandSPX.exc_get I1.kIn J T.ga T.gg T.exC (PySem.W.findObj_own T.hdC hno rfl (by rw [hl, hu])) (handed_of ru) ⟨v, H1, I1.tok _, ru, q⟩
end
section
variable {K : PySem.W.Frag} {fn cls : Str → Option Addr} {cl : ClT}
variable {B B' : Bs} {W : WX} {lk lk' L L' La Lb : List Nat} {Z Z' : Addr → Prop} {σ σ' : L2.St} {H H' : Hp} {Γ Γ' Γ1 Γ2 Γ3 : List Nat} {en en' : En} {fps fps' : Nat → List Addr} {κ κ' k : Nat} {κs : List Nat} {v : V} {d : D} {ro : RO}
variable {X : Cx} {pos : Pos} {m ma mb mc : EM} {e a b c : Expr}
theorem own_exc {Zx : Addr → Prop} {c : Str} {x : D} {fp : List Addr} (h : Own (mkG K fn cls cl) Zx H κ v (.exc c x) fp) : ∃ a C dd w, v = .ref a ∧ cls c = some C ∧ H a = some (ExAt (.ref C) (some dd) a) ∧ H dd = some (.xd [(("value" : Str), w)]) ∧ Own (mkG K fn cls cl) Zx H 0 w x [] := by
  cases h with
  | exc q o =>
    obtain ⟨C, dd, h1, h2, h3⟩ := q
    exact ⟨_, C, dd, _, rfl, h1, h2, h3, o⟩
def dIsX (n : Str) : D → Option D
  | .exc c _ => some (.bl (c == n))
  | .non => some (.bl false)
  | _ => none
/-- isinstance(e, C2) of an exception, or of None -/
theorem ei_isX {x2 : Str} {C2 : Addr} {md : Md} {p p2 : Pos} (hcl : ∀ c C, cls c = some C → ExcC X.K C ∧ PySem.W.kitOne X.K (.ref C) (.ref C2) = some (c == x2)) (hnn : PySem.W.kitOne X.K (.type "NoneType") (.ref C2) = some false) (hg : Gl X "isinstance") (hm : X.mg "isinstance" = none) (hv : bootBuiltins "isinstance" = some (.builtin "isinstance")) (hg2 : Gl X x2) (hm2 : X.mg x2 = some (.ref C2)) (ha : OI X (mkG K fn cls cl) W lk Γ a md Γ' m)
    (hd2 : (x2 == ("__debug__" : Str)) = false := by decide)
    (he : starEach (a :: [.Name x2 p2]) X.env = (false, eval a X.env) :: starEach [.Name x2 p2] X.env := by rfl) (he2 : starEach [.Name x2 p2] X.env = (false, eval (.Name x2 p2) X.env) :: starEach [] X.env := by rfl) (hpl : (backTo pos (starEach [.Name x2 p2] X.env)).any (·.1) = false := by rfl) :
    EI X (mkG K fn cls cl) W lk Γ (.Call (.Name "isinstance" p) [a, .Name x2 p2] [] pos) κ [] Γ' (m1 (dIsX x2) m) :=
  PE.imp (pe_callB (call_isX (C2 := C2)) hg hm hv (pa_cons ha (pa_cons (pe_glob (v := .ref C2) hg2 hm2 rfl hd2) pa_nil he2) he) (by decide) (by decide) he hpl) fun σ H Q ⟨B, Z, en, fps, C, o⟩ => ⟨B, Z, en, fps, C, out1 (md := md) (r := fun v H2 => rIsX X.K C2 [v, .ref C2] H2 Q) o fun d d' v Z2 H2 fps2 en2 ef C2' h2 o => by
    obtain ⟨_, _, _, ow⟩ := Md.any h2
    unfold dIsX at ef
    split at ef
    · cases ef
      obtain ⟨a, C, dd, w, rfl, h1, h3, h4, _⟩ := own_exc ow
      obtain ⟨q1, q2⟩ := hcl _ C h1
      exact .inl ⟨a, C, dd, _, _, rfl, h3, h4, q1, q2, o _ _ _ _ [] C2' (.sc .bl)⟩
    · cases ef
      have := own_non ow
      subst this
      exact .inr ⟨.non, .ref C2, .type "NoneType", .ref C2, false, rfl, .own C2, .base .non, hnn, o _ _ _ _ [] C2' (.sc .bl)⟩
    · cases ef⟩
def dVal : D → Option D
  | .exc _ x => some x
  | _ => none
theorem ei_val (hcl : ∀ c C, cls c = some C → XfC X.K C ∧ PySem.W.findIn X.K (.ref C) "value" = some none) (ha : EI X (mkG K fn cls cl) W lk Γ a 0 L Γ' m) (hb : attributeBase a "value" X.env (eval a X.env) = eval a X.env := by rfl) :
    EI X (mkG K fn cls cl) W lk Γ (.Attribute a "value" pos) 0 L Γ' (m1 dVal m) :=
  PE.imp (pe_xv ha hb) fun σ H Q ⟨B, Z, en, fps, C, o⟩ => ⟨B, Z, en, fps, C, (out1 (md := .e 0 L) o fun d d' v Z2 H2 fps2 en2 ef C2 ⟨fp, h2⟩ o => by
    unfold dVal at ef
    split at ef
    · cases ef
      obtain ⟨a, C, dd, w, rfl, h1, h3, h4, o4⟩ := own_exc h2.own
      obtain ⟨q1, q2⟩ := hcl _ C h1
      exact ⟨a, C, dd, _, w, rfl, h3, h4, q1, q2, by simp [List.lookup], o w _ _ _ [] C2 (held_frz o4)⟩
    · cases ef).toE⟩
/-! ### the statement -/
def bareE (Γ : List Nat) (en : En) : En := en.mapIdx fun i d => if Γ.getD i 0 = 0 then d else none
def bsE (H : Hp) (Z : Addr → Prop) : Bs := ⟨H, Z, fun _ => False, fun _ _ => False, []⟩
theorem Cfg.bare {G : GI} (C : Cfg G B lk Z σ H Γ en fps) : Cfg G (bsE H Z) [] Z σ H Γ (bareE Γ en) (fun _ => []) where
  bok := ⟨fun _ z => z.elim, fun _ _ z => z.elim, fun _ _ z => z.elim, C.zt, fun _ _ z => z.elim, fun _ _ _ z => z.elim⟩
  len := by unfold bareE; rw [List.length_mapIdx]; exact C.len
  rep := fun i d e => by
    unfold bareE at e
    rw [List.getElem?_mapIdx] at e
    cases q : en[i]? with
    | none => rw [q] at e; cases e
    | some y =>
      rw [q] at e
      simp only [Option.map_some, Option.some.injEq] at e
      split at e
      · rename_i hz
        subst e
        obtain ⟨v, h1, h2⟩ := C.rep i d q
        rw [hz] at h2
        have z := h2.z0
        rw [z] at h2
        exact ⟨v, h1, by rw [hz]; exact h2⟩
      · cases e
  emp := fun _ _ => rfl
  nd := fun _ => List.nodup_nil
  dis := fun _ _ _ h => nomatch h
  nz := fun _ _ h => nomatch h
  zt := C.zt
  tab := C.tab
  keep := fun a o e _ => .inl e
  newf := fun _ _ h => nomatch h
  lkd := fun _ _ _ h => nomatch h
  lks := fun _ _ h => h.elim
  zb := fun _ z => z
  zn := fun _ z => .inl z
  pin := fun _ h => nomatch h
/-- the heap has grown -/
theorem Cfg.ext {G : GI} (C : Cfg G B lk Z σ H Γ en fps) (k : ∀ a o, H a = some o → Kp o (H' a)) (tb : TabO G.T H') : Cfg G B lk Z σ H' Γ en fps :=
  { C with
    rep := fun i d e => by
      obtain ⟨v, h1, h2⟩ := C.rep i d e
      exact ⟨v, h1, own_keep (fun a u q n => (k a u q).eq (nct n)) (fun a z => ⟨z, fun u q => (k a u q).eq (by
        obtain ⟨o, e, t⟩ := C.zt a z
        rw [e] at q; cases q; exact t)⟩) h2 fun a m u q => (k a u q).eq (by
        obtain ⟨o, e, t⟩ := C.chg m
        rw [e] at q; cases q; exact t.nt)⟩
    zt := fun a z => by
      obtain ⟨o, q, t⟩ := C.zt a z
      exact ⟨o, (k a o q).eq t, t⟩
    tab := tb
    keep := fun a o e n => (C.keep a o e n).trans fun o1 e1 => k a o1 e1 }
theorem Cfg.reσ {G : GI} (C : Cfg G B lk Z σ H Γ en fps) (hl : σ'.length = σ.length) (h : ∀ (i : Nat) (d : D), en[i]? = some (some d) → σ'[i]? = σ[i]?) (hp : ∀ p ∈ B.pins, σ'[p.1]? = some (some p.2)) : Cfg G B lk Z σ' H Γ en fps :=
  { C with
    len := by rw [hl]; exact C.len
    rep := fun i d e => by
      obtain ⟨v, h1, h2⟩ := C.rep i d e
      exact ⟨v, by rw [h i d e]; exact h1, h2⟩
    pin := hp }
/-- try: e / except (all own errors) as n: y = n -/
def mTry (Γ : List Nat) (i j : Nat) (m : EM) : SM := fun en => match m (bareE Γ en) with
  | .ok _ _ => .nx en
  | .exc c x => .nx ((en.set i none).set j (some (.exc c x)))
  | .bad => .bad
theorem si_try {x n y : Str} {cb : Value} {i j : Nat} {e : Expr} {np pos' py pn2 sp ep : Pos} (hs : X.stack = X.env :: X.outer) (hf : X.env.frame = some X.env.locals) (hex : X.ex = []) (hN : X.N.Nodup) (hi : X.N[i]? = some n) (hln : X.env.kindOf n = some .local) (hj : X.N[j]? = some y) (hlj : X.env.kindOf y = some .local) (hc : Names X x cb) (tk : Takes X (fun _ _ _ _ => False))
    (hcl : ∀ c C, cls c = some C → PySem.W.exmOne X.K (.ref C) cb = some true) (hij : i ≠ j) (hil : i ∉ lk) (hjl : j ∉ lk) (hk : Γ.getD j 0 = 0) (hk2 : Γ.set j 0 = Γ) (hjΓ : j < Γ.length) (hio : ∀ l, l = i ∨ l = j → (ro.io.getD l none).isSome = false)
    (hb : ∀ (W : WX) (pn : List (Addr × Obj)) (xe : Value → Shared → Prop), Takes (X.tr pn xe) W → EI (X.tr pn xe) (mkG K fn cls cl) W [] Γ e κ L Γ m)
    (hdn : (n == ("__debug__" : Str)) = false := by decide) (hdc : (n == ("__classdict__" : Str)) = false := by decide)
    (hsw : ∀ env : Env, swapsWith (.Name n pn2) (some (.Name y py)) sp.line env = pure false := by intro _; rfl) (hse : ∀ env : Env, swapsWith e none ep.line env = pure false := by intro _; rfl) :
    SI X (mkG K fn cls cl) W lk ro Γ (.Try [.Expr e ep] [.ExceptHandler (some (.Name x np)) (some n) [.Assign [.Name y py] (.Name n pn2) sp] pos'] [] [] pos) Γ (mTry Γ i j m) :=
  PS.imp (ps_try_keep hs hf hex hN hi hln hj hlj hc tk hdn hdc hsw fun W pn xe tk _ => pss_one (ps_expr (hb W pn xe tk) (hse _))) fun D σ H ⟨B, Z, en, fps, P, C, o⟩ => by
    refine ⟨bsE H Z, Z, bareE Γ en, fun _ => [], C.bare, ?_⟩
    unfold mTry at o
    cases em : m (bareE Γ en) with
    | bad => rw [em] at o; exact o
    | ok d en' =>
      rw [em] at o
      intro v Z' H' fps' fp C' h'
      exact o σ Z H' fps (C.ext (fun a q e => C'.keep a q e fun z => z) C'.tab)
    | exc c x =>
      rw [em] at o
      intro Cc dd H' y
      refine ⟨true, hcl c Cc y.cls, fun _ a ha => ?_, fun z => by cases z⟩
      obtain ⟨w, Z', e1, e2, zb, zn, zt⟩ := y.ex
      have k : ∀ a q, H a = some q → Kp q (H' a) := fun a q e => y.keep a q e fun z => z
      have C1 := C.ext k y.tab
      have S1 : ∀ a, Z' a → Z a ∨ (Z' a ∧ H a = none) := fun a z => by
        rcases zn a z with q | q | ⟨_, q⟩ | q
        · exact .inl q
        · exact q.elim
        · exact q.elim
        · exact .inr ⟨z, q⟩
      have C2 := C1.addZ (S := fun a => Z' a ∧ H a = none) (fun a z => zt a z.1) (fun a z i m => by
        obtain ⟨u, q, _⟩ := C.chg m
        rw [z.2] at q; cases q) (fun a z => C.none_of z.2)
      have C3 := (C2.drop i hil).grow (o := ExAt (.ref Cc) (some dd) a) ha
      have hE : Own (mkG K fn cls cl) (fun a => Z a ∨ (Z' a ∧ H a = none)) (upd H' a (ExAt (.ref Cc) (some dd) a)) 0 (.ref a) (.exc c x) [] := by
        refine .exc ⟨Cc, dd, y.cls, upd_same, ?_⟩ (own_keep (fun b u q _ => upd_keep ha b u q) (fun b z => ⟨S1 b z, fun u q => upd_keep ha b u q⟩) e2 fun b m => nomatch m)
        exact upd_keep ha _ _ e1
      have C4 := C3.set (i := j) (κ := 0) (fp := []) (held_frz (hE.monoZ fun a z => Zl_nil.mpr z)) hjl hjΓ (pin_ne P (hio j (.inr rfl)))
      rw [hk2] at C4
      have C5 := C4.reσ (σ' := ((σ.set i (some (.ref a))).set j (some (.ref a))).set i none) (by simp) (fun l d e => by
        by_cases hl : l = i
        · subst hl
          exfalso
          rw [List.getElem?_set_ne (Ne.symm hij)] at e
          by_cases hb : l < en.length
          · rw [List.getElem?_set_self hb] at e; cases e
          · rw [List.getElem?_eq_none (by simpa using hb)] at e; cases e
        · rw [List.getElem?_set_ne (Ne.symm hl)]
          by_cases hlj : l = j
          · subst hlj
            by_cases hb : l < σ.length
            · rw [List.getElem?_set_self (by simpa using hb), List.getElem?_set_self hb]
            · rw [List.getElem?_eq_none (by simpa using hb), List.getElem?_eq_none (by simpa using hb)]
          · rw [List.getElem?_set_ne (Ne.symm hlj), List.getElem?_set_ne (Ne.symm hl), List.getElem?_set_ne (Ne.symm hlj)]) (fun p m => by
        have n1 := pin_ne P (hio i (.inl rfl)) p m
        have n2 := pin_ne P (hio j (.inr rfl)) p m
        rw [List.getElem?_set_ne (Ne.symm n1), List.getElem?_set_ne (Ne.symm n2), List.getElem?_set_ne (Ne.symm n1)]
        exact C.pin p m)
      exact o _ _ _ _ C5
end
end Im
/-! A written dict asked; a function held, called; the head. -/
namespace Im
open PySem PySem.Spec PyProof.Rows L2
section
variable {G : GI} {B B' : Bs} {W : WX} {lk lk' L L' La Lb : List Nat} {Z Z' : Addr → Prop} {σ σ' : St} {H H' : Hp} {Γ Γ' Γ0 Γ1 Γ2 Γ3 : List Nat} {en en' : En} {fps fps' : Nat → List Addr} {κ κ' k : Nat} {κs : List Nat} {v : V} {d : D} {ro : RO}
variable {X : Cx} {pos : Pos} {m ma mb mc : EM} {e a b c : Expr} {K : PySem.W.Frag}
/-! ### a dict of the module, texts its keys, asked -/
def dKd (tb : List (Str × D)) : D → Option D
  | .str z => tb.lookup z
  | _ => none
theorem ei_kd {x : Str} {p : Pos} {a : Addr} {tb : List (Str × D)} {md : Md} (hg : Gl X x) (hm : X.mg x = some (.ref a)) (ht : ∀ z d, tb.lookup z = some d → ∃ v, ScV v d ∧ KDct X.K X.w a z v) (hb : OI X G W lk Γ b md Γ' m) (hs : PlainIx b) (hd : (x == ("__debug__" : Str)) = false := by decide) :
    EI X G W lk Γ (.Subscript (.Name x p) b pos) κ [] Γ' (m1 (dKd tb) m) :=
  PE.imp (pe_ix ix_kdict (pe_glob (v := .ref a) hg hm rfl hd) hb hs) fun σ H Q ⟨B, Z, en, fps, C, o⟩ => ⟨B, Z, en, fps, C, out1 (md := md) o fun d d' v Z2 H2 fps2 en2 ef C2 h2 o => by
    unfold dKd at ef
    split at ef
    · rename_i z
      obtain ⟨_, _, _, ow⟩ := Md.any h2
      obtain ⟨w, sc, kd⟩ := ht z d' ef
      exact ⟨a, z, w, rfl, own_str ow, kd, o w _ _ _ [] C2 (.sc sc)⟩
    · cases ef⟩
/-! ### a function held, called -/
def mCallV (xs : List Str) (F : Str → List D → FRes) (p : List Nat) (mf : EM) (ms : AM) : EM := fun en => match mf en with
  | .ok (.fn x) en1 => if x ∈ xs then mCall (F x) p ms en1 else .bad
  | .ok _ _ => .bad
  | .exc c x => .exc c x
  | .bad => .bad
theorem ei_callv {f : Expr} (xs : List Str) {es : List Expr} {ms : AM} {mf : EM} {sl : List (Option Nat)} {sg : Sg} {F : Str → List D → FRes} {pm : List Nat} {nu : Nat} (hgd : X.A.guards = some []) (tk : Takes X W) (hf : EI X G W lk Γ f 0 [] Γ0 mf)
    (hF : ∀ x ∈ xs, ∀ fa, G.fn x = some fa → (PySem.W.keepIn X.K (.ref fa) = true ∧ ∃ fd ps k, FnG X.prog X.w X.K X.mg X.base (L2.CX X.prog X.w) k fa fd ps (spI G sg (F x)) ∧ Room k X.A ∧ KB X.K fd ps nu [] pm))
    (ha : CI X G W lk Γ0 (e :: es) κs sl La Γ1 ms) (hn : κs.length = nu := by rfl) (hp : ∀ i ∈ pm, i < κs.length := by decide) (nd : pm.Nodup := by decide) (hk : permL pm κs = sg.ks := by decide)
    (hev : eval (.Call f (e :: es) [] pos) X.env = (do PySem.callWith pos (← eval f X.env) [] (backTo pos (starEach (e :: es) X.env)) (backToKw pos (keywordEach [] X.env))) := by rfl) (he : starEach (e :: es) X.env = (false, eval e X.env) :: starEach es X.env := by rfl) (hpl : (backTo pos (starEach es X.env)).any (·.1) = false := by rfl) :
    EI X G W lk Γ (.Call f (e :: es) [] pos) sg.κ La Γ1 (mCallV xs F pm mf ms) := by
  refine ⟨fun pins s σ H Q I ⟨B, Z, en, fps, C, o⟩ => ?_⟩
  refine Call_ (thn (hf.run pins s σ H (fun v H1 => ∃ x fa Z1 en1 fps1, v = .ref fa ∧ (x ∈ xs ∧ G.fn x = some fa) ∧ Cfg G B lk Z1 σ H1 Γ0 en1 fps1 ∧ OutE G B W lk sg.κ La Γ1 σ Q (mCall (F x) pm ms en1)) I ?_) fun v s1 ⟨w, H1, I1, r1, x, fa, Z1, en1, fps1, ew, hx, C1, o1⟩ => ?_) hev
  · refine ⟨B, Z, en, fps, C, ?_⟩
    unfold mCallV at o
    cases em : mf en with
    | bad => rw [em] at o; exact o
    | exc c x => rw [em] at o; exact o
    | ok d en1 =>
      rw [em] at o
      cases d with
      | fn x =>
        intro v Z1 H1 fps1 fp C1 h1
        obtain ⟨fa, e1, e2⟩ : ∃ fa, v = .ref fa ∧ G.fn x = some fa := by
          have q := h1.own
          generalize hd : D.fn x = dx at q
          cases q with
          | fn e => cases hd; exact ⟨_, rfl, e⟩
          | _ => cases hd
        dsimp only at o
        split at o
        · rename_i hm
          exact ⟨x, fa, Z1, en1, fps1, e1, ⟨hm, e2⟩, C1, o⟩
        · exact o.elim
      | _ => exact o.elim
  · subst ew
    cases (show v = Value.ref fa from r1)
    obtain ⟨hkp, fd, ps, k, Fo, hr, hb⟩ := hF x hx.1 fa hx.2
    have cm : CallM G W lk Γ0 κs sl La Γ1 ms sg (F x) pm La Γ1 (mCall (F x) pm ms) := cm_n hp nd hk
    refine PySem.W.callWith_K (h₀ := X.base) I1.ok.mod.kin hkp (thn (ha.run pos pins s1 σ H1 _ I1 (cm σ H1 Q ⟨B, Z1, en1, fps1, C1, o1⟩)) fun us s2 ⟨vs, H2, I2, r, hl, q⟩ => ⟨I2.kIn, ?_⟩) he hpl
    exact run_kb (kn := []) (zs := []) (ws := []) (E := WE W) Fo hgd hr hb (passAt tk σ) I2 r .nil (by show us.length = nu; rw [← r.length, hl, hn]) rfl (by rw [List.append_nil]; exact q)
end
/-! ### the head -/
section
open PySem.W (KeysLit)
variable {P : Program} {w : World} {K : PySem.W.Frag} {mg mb : Str → Option Value} {k : Nat} {fa a : Addr} {fd : FuncData} {x : Str} {sp : Sp} {s₁ : Shared} {vs : List Value} {ns : List Int}
/-- the law's def called with the script at a, the abstract heap H given: nothing tracked but (perhaps) the script -/
theorem head_run {H : Hp} (KX : K.In s₁.heap) (hns : s₁.heap.Ns mainGlobals mg) (hb : s₁.heap.Ns builtinsNs mb) (hbb : ∀ x : Str, x ≠ "__name__" → mb x = bootBuiltins x) (hlim : s₁.heap.NoLimit) (hg : s₁.gens = #[])
    (ha : s₁.heap.get? a = some { cls := .type "list", data := .seq vs.toArray }) (hr : Room k callerA)
    (F : ∀ base : Heap, K.In base → base.Ns mainGlobals mg → FnG P w K mg base (L2.CX P w) k fa fd [x] sp) (hbind : ∀ (s : Shared) (u : Value), BindsTo s fd ⟨[u], []⟩ [(x, u)])
    (hsp : sp [.ref a] H (fun v _ => v = .bl true) fun _ _ _ => False) (hO : Only H) (hok : HOk P w H s₁.heap) (hA : ∀ b, H b ≠ none → b = a) (hK : H a ≠ none → K.lookup a = none) :
    codeAny (model P w) callerA (.call (.ref fa) ⟨[.ref a], []⟩) (fun r s' => r = .ok (.ret (.bool true)) ∧ OldK s₁.heap s'.heap ∧ s'.os = s₁.os ∧ AllBare s'.gens) s₁ := by
  have free : ∀ {b : Addr} {o : Obj} {es : Array DictEntry} {ep : Nat}, s₁.heap.get? b = some o → o.data = .dict es ep → H b = none := fun {b o es ep} e d => by
    cases q : H b with
    | none => rfl
    | some u =>
      obtain rfl := hA b (by rw [q]; simp)
      rw [ha] at e; cases e
      cases (show Data.seq vs.toArray _ = Data.dict es ep from d)
  have names : ∀ {b : Addr} {m : Str → Option Value}, s₁.heap.Ns b m → (hidT s₁.heap H).Ns b m := fun {b m} ⟨o, es, ep, e, d, r⟩ => ⟨o, es, ep, hidT_get e (free e d), d, r⟩
  have KB' : K.In (hidT s₁.heap H) := fun b o e => hidT_get (KX b o e) (by
    cases q : H b with
    | none => rfl
    | some u =>
      obtain rfl := hA b (by rw [q]; simp)
      rw [hK (by rw [q]; simp)] at e; cases e)
  have mod : Mod K mg (hidT s₁.heap H) := ⟨KB', names hns, ⟨mb, names hb, hbb⟩, let ⟨mc, h1, h2⟩ := hlim; ⟨mc, names h1, h2⟩⟩
  have e0 : Env0 P w K mg (hidT s₁.heap H) callerA [] s₁ H := ⟨rfl, mod, fun b o e => of_hidT e, Nat.le_of_eq (hidT_size _ _), trivial, fun b hb => absurd (show b ∈ ([] : List Addr) from hb) (by simp), hok, .of_eq hg⟩
  refine codeAny_mono ((F _ KB' (names hns)).run callerA [] s₁ H ⟨[.ref a], []⟩ [.ref a] [.ref a] _ _ rfl hr e0 (hbind s₁ (.ref a)) (.cons rfl .nil) hsp) fun r s' h => ?_
  cases r with
  | error e =>
    obtain ⟨_, _, _, _, _, _, _, _, _, _, _, _, z⟩ := (show L2.CX P w [] H s₁ (fun _ _ _ => False) e s' from h)
    exact z.elim
  | ok fl =>
    cases fl with
    | next => exact False.elim h
    | brk => exact False.elim h
    | cont => exact False.elim h
    | ret u =>
      obtain ⟨v, H', os, bare, un, hok', r', q⟩ := h
      obtain rfl : v = .bl true := q
      obtain rfl : u = Value.bool true := r'
      refine ⟨rfl, OldK.of_keep fun b o e => ?_, os, bare⟩
      cases q : H b with
      | none => exact un.keep b o e q (by simp [frs]) (by simp)
      | some u =>
        rcases hO b with z | ⟨ob, xs, z⟩
        · rw [q] at z; cases z
        · obtain ⟨e1, _⟩ := hok b _ z
          obtain ⟨e2, _⟩ := hok' b _ (un.frzs b ob _ z)
          rw [e] at e1; cases e1
          exact e2
theorem head_call (KX : K.In s₁.heap) (hns : s₁.heap.Ns mainGlobals mg) (hb : s₁.heap.Ns builtinsNs mb) (hbb : ∀ x : Str, x ≠ "__name__" → mb x = bootBuiltins x) (hlim : s₁.heap.NoLimit) (hg : s₁.gens = #[])
    (ha : s₁.heap.get? a = some { cls := .type "list", data := .seq vs.toArray }) (hi : IntsAre vs ns) (hl : ns.length ≤ sizeLine) (hr : Room k callerA)
    (F : ∀ base : Heap, K.In base → base.Ns mainGlobals mg → FnG P w K mg base (L2.CX P w) k fa fd [x] sp) (hbind : ∀ (s : Shared) (u : Value), BindsTo s fd ⟨[u], []⟩ [(x, u)])
    (hsp : ∀ H : Hp, ScrAt K H a ns → (∀ b ps, H b ≠ some (.tbl ps)) → sp [.ref a] H (fun v _ => v = .bl true) fun _ _ _ => False) :
    codeAny (model P w) callerA (.call (.ref fa) ⟨[.ref a], []⟩) (fun r s' => r = .ok (.ret (.bool true)) ∧ OldK s₁.heap s'.heap ∧ s'.os = s₁.os ∧ AllBare s'.gens) s₁ := by
  have rv := vals_ints hi
  have hn := hi.length
  cases hk : K.lookup a with
  | some o =>
    have e := KX a o hk
    rw [ha] at e
    cases e
    refine head_run (H := fun _ => none) KX hns hb hbb hlim hg ha hr F hbind (hsp _ (.inr ⟨_, vs.toArray, _, hk, rfl, rfl, rfl, by rw [List.size_toArray, hn]; exact hl, by simpa using rv⟩) fun _ _ z => nomatch z) (fun _ => .inl rfl) (fun b u z => ?_) (fun b z => absurd rfl z) fun z => absurd rfl z
    cases (show (none : Option HO) = some u from z)
  | none =>
    refine head_run (H := fun b => if b = a then some (.frz { cls := .type "list", data := .seq vs.toArray } (.lst (ns.map V.int))) else none) KX hns hb hbb hlim hg ha hr F hbind (hsp _ (.inl ⟨{ cls := .type "list", data := .seq vs.toArray }, if_pos rfl⟩) fun b ps z => ?_) (fun b => ?_) (fun b u z => ?_) (fun b z => ?_) fun _ => hk
    · by_cases hb : b = a
      · cases (if_pos hb).symm.trans z
      · cases (if_neg hb).symm.trans z
    · by_cases hb : b = a
      · exact .inr ⟨_, _, if_pos hb⟩
      · exact .inl (if_neg hb)
    · by_cases hb : b = a
      · have q := (if_pos hb).symm.trans z
        cases q
        subst hb
        exact ⟨ha, by rw [List.length_map]; exact hl, vs, _, rv, ha⟩
      · cases (if_neg hb).symm.trans z
    · by_cases hb : b = a
      · exact hb
      · exact absurd (if_neg hb) z
theorem head_walk {l : PySem.W.OpenLaw} {n k : Nat} {q : Program} {loose : List Str} {XP : (Str → Option Value) → Heap → Prop} {YP : World → Heap → Prop} {d : DefRec} {K : Params → PySem.W.Frag} {F : World → List D → FRes} {x : Str}
    (hn : l.most = some n) (hn2 : n ≤ sizeLine) (hdf : d.params.defaults = []) (hr : Room k callerA)
    (hY : ∀ (w : World) (h : Heap), YP w h → (K w.params).In h)
    (hF : ∀ (w : World) (mg : Str → Option Value) (fa : Addr) (h : Heap), (K w.params).In h → h.Ns mainGlobals mg → mg d.name = some (.ref fa) →
      ∃ (fd : FuncData) (Gw : GI), Gw.K = K w.params ∧ Gw.T = [] ∧ (∀ (s : Shared) (u : Value), BindsTo s fd ⟨[u], []⟩ [(x, u)]) ∧
        ∀ base : Heap, (K w.params).In base → base.Ns mainGlobals mg → FnG l.prog w (K w.params) mg base (L2.CX l.prog w) k fa fd [x] (spI Gw ⟨[0], [], 0⟩ (F w)))
    (hlaw : ∀ (w : World) (ns : List Int), ns.length ≤ n → ∃ ios, F w [.scr ns] = .ok (.bl true) ios) :
    PySem.W.WalkO q loose XP YP l.row.toRowW d [] (fun f vs => PySem.call f vs) := by
  refine Att.attach_call hn hdf fun w s₀ s₁ mg mb fa o pm cd doc a vs ns G Y ho hd hcd hmg hobj hints hlen hg => ?_
  have KX := hY w _ Y
  obtain ⟨fd, Gw, hGK, hGT, hb, hFn⟩ := hF w mg fa _ KX G.T.g hmg
  refine head_call KX G.T.g G.T.b G.T.builtins G.T.nolimit hg hobj hints (Nat.le_trans hlen hn2) hr hFn hb fun H hS hN => ?_
  obtain ⟨ios, hl⟩ := hlaw w ns hlen
  refine ⟨rfl, fun _ => False, [.scr ns], fun _ => [], ⟨fun _ z => z.elim, ⟨fun p hp => (by rw [hGT] at hp; cases hp), fun b ps z => absurd z (hN b ps)⟩⟩, ⟨fun j d e => ?_, rfl, fun _ _ => rfl, fun _ => List.nodup_nil, fun _ _ _ h => (nomatch h), fun _ _ h => (nomatch h)⟩, ?_⟩
  · cases j with
    | zero =>
      cases e
      exact ⟨_, rfl, .scr (by rw [hGK]; exact hS)⟩
    | succ j => cases e
  · rw [hl]
    intro v Z' H' fr f' x
    exact scv_bl x.own
end
end Im
/-! a, b = x, y; rules in short for printed derivations. -/
namespace Im
open PySem PySem.Spec PyProof.Rows L2
section
variable {G : GI} {B B' : Bs} {W : WX} {lk lk' L L' La Lb : List Nat} {Z Z' : Addr → Prop} {σ σ' : St} {H H' : Hp} {Γ Γ' Γ0 Γ1 Γ2 Γ3 : List Nat} {en en' : En} {fps fps' : Nat → List Addr} {κ κ' k : Nat} {κs : List Nat} {v : V} {d : D} {ro : RO}
variable {X : Cx} {pos : Pos} {m ma mb mc : EM} {e a b c : Expr} {K : PySem.W.Frag}
theorem Held.set_other {i : Nat} {fp fp1 : List Addr} {d1 : D} (h : Held G B [] Z H fps κ v d fp) (ap : ∀ a ∈ fp, a ∉ fp1) : Held G B [] Z H (fun j => if j = i then (if i < en.length then fp1 else []) else fps j) κ v d fp :=
  ⟨h.own.monoZ fun a z => .inl (Zl_nil.mp z), h.nd, h.nz, fun a m j q => by
    split at q
    · split at q
      · exact ap a m q
      · cases q
    · exact h.ds a m j q, h.nw⟩
def mPar (i j : Nat) (ms : AM) : SM := fun en => match ms en with
  | .ok [d1, d2] en' => .nx ((en'.set i (some d1)).set j (some d2))
  | .ok _ _ => .bad
  | .exc c x => .exc c x
  | .bad => .bad
theorem si_par {i j k1 k2 : Nat} {x y : Str} {ms : AM} {px py pt : Pos} {kt kt2 : Nat} {pt2 : Pos} (hc : X.calm = true) (hW : WFree W) (hN : X.N.Nodup) (hi : X.N[i]? = some x) (hj : X.N[j]? = some y) (hx : X.env.scope.names.lookup x = some .local) (hy : X.env.scope.names.lookup y = some .local) (ha : AI X G W lk Γ [a, b] [k1, k2] [] Γ1 ms)
    (hw : swappedStores [.Tuple [.Name x px, .Name y py] kt pt] (.Tuple [a, b] kt2 pt2) X.env = pure (some [x, y]) := by rfl)
    (hij : i ≠ j := by decide) (hil : i ∉ lk := by decide) (hjl : j ∉ lk := by decide) (hiΓ : i < Γ1.length := by decide) (hjΓ : j < Γ1.length := by decide) (hio : (ro.io.getD i none).isSome = false := by rfl) (hjo : (ro.io.getD j none).isSome = false := by rfl)
    (hs : swapsWithSole [.Tuple [.Name x px, .Name y py] kt pt] (.Tuple [a, b] kt2 pt2) pos.line X.env = pure false := by rfl) :
    SI X G W lk ro Γ (.Assign [.Tuple [.Name x px, .Name y py] kt pt] (.Tuple [a, b] kt2 pt2) pos) ((Γ1.set i k1).set j k2) (mPar i j ms) :=
  PS.imp (ps_par hc hN hi hj hij hx hy ha hw hs) fun D σ H ⟨B, Z, en, fps, P, C, o⟩ => by
    refine ⟨B, Z, en, fps, C, ?_⟩
    unfold mPar at o
    cases em : ms en with
    | bad => rw [em] at o; exact o
    | exc c x => rw [em] at o; exact fun Cc dd H' y => o Cc dd σ H' y
    | ok ds en' =>
      rw [em] at o
      intro vs Z' H' fps' fpl C' h'
      obtain ⟨ho, hn, hz, hd, hwn⟩ := h'
      cases ho with
      | @cons _ _ v1 d1 _ _ fp1 _ o1 ho =>
        cases ho with
        | @cons _ _ v2 d2 _ _ fp2 _ o2 ho =>
          cases ho
          rw [List.flatten_cons, List.flatten_cons, List.flatten_nil, List.append_nil] at hn hz hd hwn
          have n := List.nodup_append.mp hn
          have h1 : Held G B [] Z' H' fps' k1 v1 d1 fp1 := ⟨o1, n.1, fun a m => hz a (List.mem_append_left _ m), fun a m => hd a (List.mem_append_left _ m), fun a m => hwn a (List.mem_append_left _ m)⟩
          have h2 : Held G B [] Z' H' fps' k2 v2 d2 fp2 := ⟨o2, n.2.1, fun a m => hz a (List.mem_append_right _ m), fun a m => hd a (List.mem_append_right _ m), fun a m => hwn a (List.mem_append_right _ m)⟩
          have C1 := C'.set h1 hil hiΓ (pin_ne P hio)
          have h2' := h2.set_other (en := en') (i := i) (fp1 := fp1) (d1 := d1) fun a m m' => n.2.2 a m' a m rfl
          have C2 := C1.set h2' hjl (by rw [List.length_set]; exact hjΓ) (pin_ne P hjo)
          exact ⟨v1, v2, rfl, o _ _ _ _ C2⟩
def mPar3 (i j l : Nat) (ms : AM) : SM := fun en => match ms en with
  | .ok [d1, d2, d3] en' => .nx (((en'.set i (some d1)).set j (some d2)).set l (some d3))
  | .ok _ _ => .bad
  | .exc c x => .exc c x
  | .bad => .bad
theorem si_par3 {i j l k1 k2 k3 : Nat} {x y z : Str} {ms : AM} {px py pz pt : Pos} {kt kt2 : Nat} {pt2 : Pos} (hc : X.calm = true) (hW : WFree W) (hN : X.N.Nodup) (hi : X.N[i]? = some x) (hj : X.N[j]? = some y) (hl : X.N[l]? = some z) (hx : X.env.scope.names.lookup x = some .local) (hy : X.env.scope.names.lookup y = some .local) (hz : X.env.scope.names.lookup z = some .local) (ha : AI X G W lk Γ [a, b, c] [k1, k2, k3] [] Γ1 ms)
    (hw : swappedStores [.Tuple [.Name x px, .Name y py, .Name z pz] kt pt] (.Tuple [a, b, c] kt2 pt2) X.env = pure (some [x, y, z]) := by rfl)
    (hij : i ≠ j := by decide) (hil' : i ≠ l := by decide) (hjl' : j ≠ l := by decide) (hil : i ∉ lk := by decide) (hjl : j ∉ lk := by decide) (hll : l ∉ lk := by decide) (hiΓ : i < Γ1.length := by decide) (hjΓ : j < Γ1.length := by decide) (hlΓ : l < Γ1.length := by decide) (hio : (ro.io.getD i none).isSome = false := by rfl) (hjo : (ro.io.getD j none).isSome = false := by rfl) (hlo : (ro.io.getD l none).isSome = false := by rfl)
    (hs : swapsWithSole [.Tuple [.Name x px, .Name y py, .Name z pz] kt pt] (.Tuple [a, b, c] kt2 pt2) pos.line X.env = pure false := by rfl) :
    SI X G W lk ro Γ (.Assign [.Tuple [.Name x px, .Name y py, .Name z pz] kt pt] (.Tuple [a, b, c] kt2 pt2) pos) (((Γ1.set i k1).set j k2).set l k3) (mPar3 i j l ms) :=
  PS.imp (ps_par3 hc hN hi hj hl hij hil' hjl' hx hy hz ha hw hs) fun D σ H ⟨B, Z, en, fps, P, C, o⟩ => by
    refine ⟨B, Z, en, fps, C, ?_⟩
    unfold mPar3 at o
    cases em : ms en with
    | bad => rw [em] at o; exact o
    | exc c x => rw [em] at o; exact fun Cc dd H' y => o Cc dd σ H' y
    | ok ds en' =>
      rw [em] at o
      intro vs Z' H' fps' fpl C' h'
      obtain ⟨ho, hn, hz, hd, hwn⟩ := h'
      cases ho with
      | @cons _ _ v1 d1 _ _ fp1 _ o1 ho =>
        cases ho with
        | @cons _ _ v2 d2 _ _ fp2 _ o2 ho =>
          cases ho with
          | @cons _ _ v3 d3 _ _ fp3 _ o3 ho =>
            cases ho
            rw [List.flatten_cons, List.flatten_cons, List.flatten_cons, List.flatten_nil, List.append_nil] at hn hz hd hwn
            have n := List.nodup_append.mp hn
            have n2 := List.nodup_append.mp n.2.1
            have h1 : Held G B [] Z' H' fps' k1 v1 d1 fp1 := ⟨o1, n.1, fun a m => hz a (List.mem_append_left _ m), fun a m => hd a (List.mem_append_left _ m), fun a m => hwn a (List.mem_append_left _ m)⟩
            have h2 : Held G B [] Z' H' fps' k2 v2 d2 fp2 := ⟨o2, n2.1, fun a m => hz a (List.mem_append_right _ (List.mem_append_left _ m)), fun a m => hd a (List.mem_append_right _ (List.mem_append_left _ m)), fun a m => hwn a (List.mem_append_right _ (List.mem_append_left _ m))⟩
            have h3 : Held G B [] Z' H' fps' k3 v3 d3 fp3 := ⟨o3, n2.2.1, fun a m => hz a (List.mem_append_right _ (List.mem_append_right _ m)), fun a m => hd a (List.mem_append_right _ (List.mem_append_right _ m)), fun a m => hwn a (List.mem_append_right _ (List.mem_append_right _ m))⟩
            have C1 := C'.set h1 hil hiΓ (pin_ne P hio)
            have h2' := h2.set_other (en := en') (i := i) (fp1 := fp1) (d1 := d1) fun a m m' => n.2.2 a m' a (List.mem_append_left _ m) rfl
            have h3' := h3.set_other (en := en') (i := i) (fp1 := fp1) (d1 := d1) fun a m m' => n.2.2 a m' a (List.mem_append_right _ m) rfl
            have C2 := C1.set h2' hjl (by rw [List.length_set]; exact hjΓ) (pin_ne P hjo)
            have h3'' := h3'.set_other (en := en'.set i (some d1)) (i := j) (fp1 := fp2) (d1 := d1) fun a m m' => n2.2.2 a m' a m rfl
            have C3 := C2.set h3'' hll (by rw [List.length_set, List.length_set]; exact hlΓ) (pin_ne P hlo)
            exact ⟨v1, v2, v3, rfl, o _ _ _ _ C3⟩
/-- a constant of the module -/
theorem ei_gc {x : Str} {v : V} {d : D} (hg : Gl X x) (h : ∃ u, X.mg x = some u ∧ RelV v u) (sc : ScV v d) (hd : (x == ("__debug__" : Str)) = false := by decide) : EI X G W lk Γ (.Name x pos) κ [] Γ (mC d) := by
  obtain ⟨u, hm, r⟩ := h
  exact ei_glob hg hm r sc hd
/-! ### names, in short -/
theorem xS (i : Nat) {x : Str} (hN : X.N[i]? = some x := by rfl) (hv : Vis X.env.scope x := by first | exact Or.inl rfl | exact Or.inr (Or.inl rfl) | exact Or.inr (Or.inr rfl)) (hd : (x == ("__debug__" : Str)) = false := by decide) (hcd : (x == ("__classdict__" : Str)) = false := by decide) :
    EI X G W lk Γ (.Name x pos) κ [] Γ (mVarS i) := ei_varS hN hv hd hcd
theorem xV (i : Nat) {x : Str} (hN : X.N[i]? = some x := by rfl) (hv : Vis X.env.scope x := by first | exact Or.inl rfl | exact Or.inr (Or.inl rfl) | exact Or.inr (Or.inr rfl)) (hk : Γ.getD i 0 = 0 := by rfl) (hd : (x == ("__debug__" : Str)) = false := by decide) (hcd : (x == ("__classdict__" : Str)) = false := by decide) :
    EI X G W lk Γ (.Name x pos) 0 [] Γ (mVar i) := ei_var hN hv hk hd hcd
theorem xN (i : Nat) {x : Str} (hN : X.N[i]? = some x := by rfl) (hv : Vis X.env.scope x := by first | exact Or.inl rfl | exact Or.inr (Or.inl rfl) | exact Or.inr (Or.inr rfl)) (hk : Γ.getD i 0 ≤ 1 := by decide) (hd : (x == ("__debug__" : Str)) = false := by decide) (hcd : (x == ("__classdict__" : Str)) = false := by decide) :
    OI X G W lk Γ (.Name x pos) (.v [i]) Γ (mSee i) := oi_name hN hv hk hd hcd
theorem xM (i : Nat) {x : Str} (hN : X.N[i]? = some x := by rfl) (hv : Vis X.env.scope x := by first | exact Or.inl rfl | exact Or.inr (Or.inl rfl) | exact Or.inr (Or.inr rfl)) (hk : Γ.getD i 0 = κ := by rfl) (hi : i ∉ lk := by decide) (hd : (x == ("__debug__" : Str)) = false := by decide) (hcd : (x == ("__classdict__" : Str)) = false := by decide) :
    EI X G W lk Γ (.Name x pos) κ [] Γ (mMove i) := ei_move hN hv hk hi hd hcd
theorem xR (i : Nat) {x : Str} (hN : X.N[i]? = some x := by rfl) (hv : Vis X.env.scope x := by first | exact Or.inl rfl | exact Or.inr (Or.inl rfl) | exact Or.inr (Or.inr rfl)) (hk : Γ.getD i 0 = κ := by rfl) (hi : i ∉ lk := by decide) (hd : (x == ("__debug__" : Str)) = false := by decide) (hcd : (x == ("__classdict__" : Str)) = false := by decide) :
    C1I X G W lk Γ (.Name x pos) κ (some i) [] Γ (mMove i) := c1_io hN hv hk hi hd hcd
theorem oe (h : EI X G W lk Γ e 0 L Γ' m) : OI X G W lk Γ e (.e 0 L) Γ' m := oi_of h
theorem tgN (i : Nat) {x : Str} (hN : X.N.Nodup) (hi : X.N[i]? = some x := by rfl) (hx : Loc X.env.scope x := by first | exact Or.inl rfl | exact Or.inr rfl) (h1 : i ∉ lk := by decide) (h2 : i < Γ.length := by decide) (h3 : (ro.io.getD i none).isSome = false := by rfl)
    (hf : X.fn x = true ∨ X.env.scope.names.lookup x = some .local := by first | exact .inl rfl | exact .inr rfl) : TgI X G lk ro Γ (.Name x pos) κ (Γ.set i κ) [i] (gSet i) := tg_name hN hi hx h1 h2 h3 hf
theorem sSet (i : Nat) {x : Str} {pos' : Pos} (hN : X.N.Nodup) (hW : WFree W) (he : EI X G W lk Γ e κ [] Γ1 m) (hi : X.N[i]? = some x := by rfl) (hx : Loc X.env.scope x := by first | exact Or.inl rfl | exact Or.inr rfl) (h1 : i ∉ lk := by decide) (h2 : i < Γ1.length := by decide) (h3 : (ro.io.getD i none).isSome = false := by rfl)
    (hs : swapsWith e (some (.Name x pos')) pos.line X.env = pure false := by rfl) (hf : X.fn x = true ∨ X.env.scope.names.lookup x = some .local := by first | exact .inl rfl | exact .inr rfl) :
    SI X G W lk ro Γ (.Assign [.Name x pos'] e pos) (Γ1.set i κ) (mSet i m) := si_set hN hi hx he h1 h2 h3 hs hf hW
/-- texts and numbers added -/
def dAddX (d1 d2 : D) : Option D := match dAdd d1 d2 with
  | some d => some d
  | none => dCatS d1 d2
theorem lk_addX : Lk2 G (fun x y H Q => rI0 (fun i j => .int (i + j)) x y H Q ∨ (fun x y H Q => ∃ i j, x = V.str i ∧ y = V.str j ∧ i.length + j.length ≤ sizeLine ∧ Q (.str (i ++ j)) H) x y H Q) dAddX := by
  intro H v1 v2 d1 d2 d Q h1 h2 e q
  unfold dAddX at e
  cases e1 : dAdd d1 d2 with
  | some d' => rw [e1] at e; cases e; exact .inl (lk_add H v1 v2 d1 d2 _ Q h1 h2 e1 q)
  | none => rw [e1] at e; exact .inr (lk_catS H v1 v2 d1 d2 _ Q h1 h2 e q)
theorem op_addX : OpR X (binaryOp .Add) (fun x y H Q => rI0 (fun i j => .int (i + j)) x y H Q ∨ (fun x y H Q => ∃ i j, x = V.str i ∧ y = V.str j ∧ i.length + j.length ≤ sizeLine ∧ Q (.str (i ++ j)) H) x y H Q) := op_add.or op_add_str
def dMulX (d1 d2 : D) : Option D := match dMul d1 d2 with
  | some d => some d
  | none => dMulS d1 d2
theorem lk_mulX : Lk2 G (fun x y H Q => rI CMul (fun i j => .int (i * j)) x y H Q ∨ rMulS x y H Q) dMulX := by
  intro H v1 v2 d1 d2 d Q h1 h2 e q
  unfold dMulX at e
  cases e1 : dMul d1 d2 with
  | some d' => rw [e1] at e; cases e; exact .inl (lk_mul H v1 v2 d1 d2 _ Q h1 h2 e1 q)
  | none => rw [e1] at e; exact .inr (lk_mulS H v1 v2 d1 d2 _ Q h1 h2 e q)
theorem op_mulX : OpR X (binaryOp .Mult) (fun x y H Q => rI CMul (fun i j => .int (i * j)) x y H Q ∨ rMulS x y H Q) := op_mul.or op_mulS
theorem pe_negc {i : Int} {j : Nat} {p : Pos} : PE X (.UnaryOp .USub (.Constant (.int i) j p) pos) (L2.tC (.int (-i))) := ⟨fun _ _ _ H _ I h => UnaryOp_ (wpAny_Constant_int (neg_int ⟨.int (-i), H, (I.tok _).tok _, ⟨_, rfl⟩, h⟩))⟩
theorem ei_neg {i : Int} {j : Nat} {p : Pos} : EI X G W lk Γ (.UnaryOp .USub (.Constant (.int i) j p) pos) κ [] Γ (mC (.int (-i))) := PE.imp pe_negc fun σ H Q ⟨B, Z, en, fps, C, o⟩ => o _ _ _ _ _ C (.sc .int)
end
end Im
/-! list(text); a, b = a list. -/
namespace Im
open PySem PySem.Spec PyProof.Rows L2
section
variable {G : GI} {B B' : Bs} {W : WX} {lk lk' L L' La Lb : List Nat} {Z Z' : Addr → Prop} {σ σ' : St} {H H' : Hp} {Γ Γ' Γ0 Γ1 Γ2 Γ3 : List Nat} {en en' : En} {fps fps' : Nat → List Addr} {κ κ' k : Nat} {κs : List Nat} {v : V} {d : D} {ro : RO}
variable {X : Cx} {pos : Pos} {m ma mb mc : EM} {e a b c : Expr} {K : PySem.W.Frag}
theorem vals_chars : ∀ {cs : List Nat} {us : List Value}, us.length = cs.length → (∀ (j : Nat) (v : Value), us[j]? = some v → ∃ c u, cs[j]? = some c ∧ v = Value.str ⟨#[c]⟩ u) → Vals (cs.map fun c => V.str ⟨#[c]⟩) us
  | [], [], _, _ => .nil
  | c :: cs, u :: us, hl, h => by
    obtain ⟨c', t, e1, e2⟩ := h 0 u rfl
    cases e1
    exact .cons ⟨t, e2⟩ (vals_chars (by simpa using hl) fun j v e => h (j + 1) v e)
theorem call_listC (hc : X.calm = true) : CallR X (.type "list") (fun xs H Q => ∃ z, xs = [V.str z] ∧ z.length ≤ sizeLine ∧ ∀ l, H l = none → Q (.ref l) (upd H l (.lst (z.cps.toList.map fun c => V.str ⟨#[c]⟩)))) := by
  intro pins s σ H xs us Q I r h
  obtain ⟨z, rfl, hz, q⟩ := h
  obtain ⟨u, rfl, t, rfl⟩ := vals1 r
  refine call_list_str (I.ok.hd hc) z t (fun h' tk acc c' hk hS hacc => ?_) hz
  have hv : Vals (z.cps.toList.map fun c => V.str ⟨#[c]⟩) acc.toList := vals_chars (by rw [Array.length_toList, Array.length_toList]; exact hacc.1) fun j v e => by
    obtain ⟨c, u, e1, e2⟩ := hacc.2 j v (by rw [← Array.getElem?_toList]; exact e)
    exact ⟨c, u, by rw [Array.getElem?_toList]; exact e1, e2⟩
  exact ⟨.ref s.heap.objs.size, _, I.laid (t' := tk) hk (Nat.le_refl _) (show ObjOk X.prog X.w _ h' _ (.lst (z.cps.toList.map fun c => V.str ⟨#[c]⟩)) from ⟨by rw [List.length_map, Array.length_toList]; exact hz, acc.toList, c', hv, by rw [Array.toArray_toList]; exact hS⟩), rfl, q _ (I.hok.fresh (Nat.le_refl _))⟩
theorem ownL_chars : ∀ (cs : List Nat), OwnL G Z H 0 (cs.map fun c => V.str ⟨#[c]⟩) (cs.map fun c => D.str ⟨#[c]⟩) []
  | [] => .nil
  | c :: cs => OwnL.cons (fp := []) (fps := []) .str (ownL_chars cs)
def dListC : D → Option D
  | .str z => if z.length ≤ lim then some (.lst (chars z)) else none
  | _ => none
theorem ei_listC {p : Pos} (hc : X.calm = true) (hg : Gl X "list") (hm : X.mg "list" = none) (hv : bootBuiltins "list" = some (.type "list")) (ha : OI X G W lk Γ a (.e 0 L) Γ' m) (he : starEach (a :: []) X.env = (false, eval a X.env) :: starEach [] X.env := by rfl) :
    EI X G W lk Γ (.Call (.Name "list" p) [a] [] pos) 1 [] Γ' (m1 dListC m) :=
  PE.imp (pe_callTy (call_listC hc) hg hm hv (pa_cons ha pa_nil he) (by decide) (by decide) he rfl) fun σ H Q ⟨B, Z, en, fps, C, o⟩ => ⟨B, Z, en, fps, C, out1 (md := .e 0 L) o fun d d' v Z2 H2 fps2 en2 ef C2 ⟨fp, h2⟩ o => by
    unfold dListC at ef
    split at ef
    · split at ef
      · rename_i hz
        cases ef
        exact ⟨_, congrArg (fun x => [x]) (own_str h2.own), lim_ok hz, fun l hl => o _ _ _ _ _ (C2.grow hl) (fresh_lst C2 (ownL_chars _) hl)⟩
      · cases ef
    · cases ef⟩
def mgUnl (n : Nat) (gs : List D → En → Option En) : D → En → Option En := fun d en => match d with
  | .lst ds => if ds.length = n then gs ds en else none
  | _ => none
theorem tg_unl {es : List Expr} {k n : Nat} {ts : List Nat} {gs : List D → En → Option En} (hc : X.calm = true) (h : TgsI X G lk ro Γ es 0 Γ' ts gs)
    (hn : (assignEach es X.env).length = n := by rfl) (hst : (assignEach es X.env).findIdx? (·.1) = none := by rfl) : TgI X G lk ro Γ (.Tuple es k pos) 0 Γ' ts (mgUnl n gs) :=
  PG.imp (pg_unl hc h hn hst) fun v σ H Q ⟨B, Z, en, fps, d, fp, P, C, h, o⟩ => by
    unfold mgUnl at o
    split at o
    · rename_i ds
      split at o
      · rename_i hl
        obtain ⟨ho, hn, hz, hd, hw⟩ := h
        cases ho with
        | lst z e oL =>
          exact ⟨_, _, rfl, .inl (.of e), oL.len.trans hl, B, Z, en, fps, ds, [], P, C, ⟨oL, hn, hz, hd, hw⟩, o⟩
      · exact o.elim
    · exact o.elim
theorem ti_chain {op op' : CmpOp} {r r' : R2} {f f' : D → D → Option D} {mda mdb mdc : Md} (ho : OpR X (compareOp op) r) (ho' : OpR X (compareOp op') r') (lnk : Lk2 G r f) (lnk' : Lk2 G r' f') (ha : OI X G W lk Γ a mda Γ1 ma) (hb : OI X G W (mda.L ++ lk) Γ1 b mdb Γ2 mb) (hc : OI X G W lk Γ2 c mdc Γ2 mc)
    (hm : lastMarks [op, op'] [b, c] = false := by rfl) :
    TI X G W lk Γ (.Compare a [op, op'] [b, c] pos) Γ2 (mChain f f' ma mb mc) := PT.imp (pt_chain ho ho' ha hb hc hm) fun σ H Q ⟨B, Z, en, fps, C, o0⟩ => run2 C <| by
  have o := outE_bl (κ := 0) (L := []) o0
  unfold mChain at o
  cases e : mm2 ma mb en with
  | bad => rw [e] at o; exact o.elim
  | exc c x => rw [e] at o; exact o
  | ok d1 d2 en2 =>
    rw [e] at o
    dsimp only at o
    intro v1 v2 Z2 H2 fps2 C2 h1 h2
    split at o
    · rename_i hsc
      cases ef : f d1 d2 with
      | none => rw [ef] at o; exact o.elim
      | some d =>
        rw [ef] at o
        cases d with
        | bl k =>
          refine lnk H2 v1 v2 d1 d2 _ _ (Md.any h1) (Md.any h2) ef fun z sc => ?_
          cases sc
          refine ⟨k, rfl, ?_⟩
          cases k with
          | true =>
            rw [if_pos rfl]
            refine ⟨B, Z2, en2, fps2, C2, ?_⟩
            dsimp only at o
            cases ec : mc en2 with
            | bad => rw [ec] at o; exact o.elim
            | exc c x => rw [ec] at o; exact o
            | ok d3 en3 =>
              rw [ec] at o
              dsimp only at o
              intro v3 Z3 H3 fps3 C3 h3
              cases ef' : f' d2 d3 with
              | none => rw [ef'] at o; exact o.elim
              | some d =>
                rw [ef'] at o
                obtain ⟨_, _, _, o2⟩ := Md.any h2
                exact lnk' H3 v2 v3 d2 d3 d _ ⟨Z3, 0, [], (scD_scv o2 hsc).1.own⟩ (Md.any h3) ef' fun v s => o v Z3 H3 fps3 [] C3 (.sc s)
          | false =>
            rw [if_neg Bool.false_ne_true]
            exact o _ _ _ _ [] C2 (.sc .bl)
        | _ => exact o.elim
    · exact o.elim
end
end Im
/-! Lists under two names: tags. -/
namespace Im
open PySem PySem.Spec PyProof.Rows L2
section
variable {G : GI} {B B' : Bs} {W : WX} {lk lk' L L' La Lb : List Nat} {Z Z' : Addr → Prop} {σ σ' : St} {H H' : Hp} {Γ Γ' Γ0 Γ1 Γ2 Γ3 : List Nat} {en en' : En} {fps fps' : Nat → List Addr} {κ κ' k : Nat} {κs : List Nat} {v : V} {d : D} {ro : RO}
variable {X : Cx} {pos : Pos} {m ma mb mc : EM} {e a b c : Expr} {K : PySem.W.Frag}
theorem own_tl {Zx : Addr → Prop} {n : Nat} {ds : List D} {fp : List Addr} (h : Own G Zx H k v (.tl n ds) fp) : ∃ a, v = .ref a ∧ G.clo H a n [] ∧ Own G Zx H k (.ref a) (.lst ds) fp := by
  cases h with
  | tag c h => exact ⟨_, rfl, c, h⟩
def dAli : D → Option D
  | .tl n _ => some (.clo n [])
  | _ => none
/-- a tagged list by its tag alone -/
theorem ei_alias (h : EI X G W lk Γ e 0 L Γ' m) : EI X G W lk Γ e κ [] Γ' (m1 dAli m) := PE.imp h fun σ H Q ⟨B, Z, en, fps, C, o⟩ => ⟨B, Z, en, fps, C, (out1 (md := .e 0 L) (r := fun v H => Q v H) o fun d d' v Z2 H2 fps2 en2 ef C2 ⟨fp, h2⟩ o => by
  unfold dAli at ef
  split at ef
  · cases ef
    obtain ⟨a, rfl, hc, _⟩ := own_tl h2.own
    exact o _ _ _ _ [] C2 ⟨.clo hc .nil, List.nodup_nil, (fun _ h => nomatch h), (fun _ h => nomatch h), (fun _ h => nomatch h)⟩
  · cases ef).toE⟩
def dUnt : D → Option D
  | .tl _ ds => some (.lst ds)
  | d => some d
/-- the tag left off -/
theorem ei_untag (h : EI X G W lk Γ e 0 L Γ' m) : EI X G W lk Γ e 0 L Γ' (m1 dUnt m) := PE.imp h fun σ H Q ⟨B, Z, en, fps, C, o⟩ => ⟨B, Z, en, fps, C, (out1 (md := .e 0 L) (r := fun v H => Q v H) o fun d d' v Z2 H2 fps2 en2 ef C2 ⟨fp, h2⟩ o => by
  unfold dUnt at ef
  split at ef
  · cases ef
    obtain ⟨a, rfl, hc, h3⟩ := own_tl h2.own
    exact o _ _ _ _ fp C2 ⟨h3, h2.nd, h2.nz, h2.ds, h2.nw⟩
  · cases ef
    exact o _ _ _ _ fp C2 h2).toE⟩
def flatD : D → Bool
  | .non | .bl _ | .int _ | .str _ => true
  | .clo _ [] => true
  | _ => false
theorem own_flat {Z' : Addr → Prop} {fp : List Addr} (h : Own G Z H k v d fp) (f : flatD d = true) : Own G Z' H 0 v d [] := by
  cases h <;> first
    | exact .non
    | exact .bl
    | exact .int
    | exact .str
    | (simp [flatD] at f; done)
    | skip
  rename_i n vs ds hc hl
  cases ds with
  | nil => cases hl; exact .clo hc .nil
  | cons d ds => simp [flatD] at f
theorem ownL_flat {Z' : Addr → Prop} : ∀ {vs : List V} {ds : List D} {fp : List Addr}, OwnL G Z H k vs ds fp → ds.all flatD = true → OwnL G Z' H 0 vs ds [] := by
  intro vs
  induction vs with
  | nil => intro ds fp h f; cases h; exact .nil
  | cons v vs ih =>
    intro ds fp h f
    cases h with
    | cons h1 h2 =>
      rw [List.all_cons, Bool.and_eq_true] at f
      exact OwnL.cons (fp := []) (fps := []) (own_flat h1 f.1) (ih h2 f.2)
def mFlat (m : EM) : EM := fun en => match m en with
  | .ok (.lst ds) en' => if ds.all flatD then .ok (.lst ds) en' else .bad
  | .ok _ _ => .bad
  | .exc c x => .exc c x
  | .bad => .bad
/-- a list that holds nothing lent -/
theorem ei_flat (h : EI X G W lk Γ e 1 L Γ' m) : EI X G W lk Γ e 1 [] Γ' (mFlat m) := PE.imp h fun σ H Q ⟨B, Z, en, fps, C, o⟩ => by
  refine ⟨B, Z, en, fps, C, ?_⟩
  unfold mFlat at o
  cases em : m en with
  | bad => rw [em] at o; exact o
  | exc c x => rw [em] at o; exact o
  | ok d en' =>
    rw [em] at o
    cases d with
    | lst ds =>
      dsimp only at o
      split at o
      · rename_i hf
        intro v Z' H' fps' fp C' h'
        obtain ⟨a, vs, fp', rfl, e2, hl, e3⟩ := own_lstS h'.own
        obtain rfl := hl.z0
        exact o _ _ _ _ fp C' ⟨by rw [e3]; exact .own e2 (ownL_flat hl hf), h'.nd, h'.nz, h'.ds, h'.nw⟩
      · exact o.elim
    | _ => exact o.elim
/-- a built-in function of a name, whatever it owns -/
theorem ei_b1N {i : Nat} {x y : Str} {p px : Pos} {id : String} {r : List V → Hp → VK → Prop} {f : D → Option D} (hN : X.N[i]? = some y) (hvis : Vis X.env.scope y) (hc : CallR X (.builtin id) r) (lnk : Lk1 G r f) (hg : Gl X x) (hm : X.mg x = none) (hv : bootBuiltins x = some (.builtin id)) (hn : x ≠ "__name__" := by decide) (hdb : (x == ("__debug__" : Str)) = false := by decide)
    (hd : (y == ("__debug__" : Str)) = false := by decide) (hcd : (y == ("__classdict__" : Str)) = false := by decide)
    (he : starEach (.Name y px :: []) X.env = (false, eval (.Name y px) X.env) :: starEach [] X.env := by rfl) : EI X G W lk Γ (.Call (.Name x p) [.Name y px] [] pos) κ [] Γ (m1 f (mVar i)) :=
  PE.imp (pe_callB hc hg hm hv (pa_cons (pe_var hN hvis hd hcd) pa_nil he) hn hdb he rfl) fun σ H Q ⟨B, Z, en, fps, C, o⟩ => by
    unfold m1 mVar at o
    cases ei : en[i]? with
    | none => rw [ei] at o; exact o.elim
    | some od =>
      rw [ei] at o
      cases od with
      | none => exact o.elim
      | some d =>
        dsimp only at o
        cases ef : f d with
        | none => rw [ef] at o; exact o.elim
        | some d' =>
          rw [ef] at o
          obtain ⟨v, h1, h2⟩ := C.rep i d ei
          exact ⟨v, h1, lnk H v d d' Q ⟨_, _, _, h2⟩ ef fun v' s => o v' Z H fps [] C (.sc s)⟩
/-! ### a tagged tree, edited at a tag -/
mutual
def edAt (n : Nat) (f : List D → List D) : D → D
  | .tl m ds => .tl m (if m = n then f (edL n f ds) else edL n f ds)
  | .tup ds => .tup (edL n f ds)
  | .non => .non
  | .bl b => .bl b
  | .int i => .int i
  | .str x => .str x
  | .lst ds => .lst ds
  | .edict => .edict
  | .fn x => .fn x
  | .exc c v => .exc c v
  | .scr ns => .scr ns
  | .clo n xs => .clo n xs
def edL (n : Nat) (f : List D → List D) : List D → List D
  | [] => []
  | d :: ds => edAt n f d :: edL n f ds
end
mutual
def fnd (n : Nat) : D → Option (List D)
  | .tl m ds => if m = n then some ds else fndL n ds
  | .tup ds => fndL n ds
  | _ => none
def fndL (n : Nat) : List D → Option (List D)
  | [] => none
  | d :: ds => match fnd n d with
    | some r => some r
    | none => fndL n ds
end
mutual
/-- every list bears a tag -/
def allT : D → Bool
  | .tl _ ds => allTL ds
  | .tup ds => allTL ds
  | .non | .bl _ | .int _ | .str _ => true
  | _ => false
def allTL : List D → Bool
  | [] => true
  | d :: ds => allT d && allTL ds
end
mutual
def ldep : D → Nat
  | .tl _ ds | .lst ds => ldepL ds + 1
  | .tup ds => ldepL ds
  | _ => 0
def ldepL : List D → Nat
  | [] => 0
  | d :: ds => max (ldep d) (ldepL ds)
end
mutual
/-- what is edited at the tag is as p says -/
def allN (n : Nat) (f : List D → List D) (p : List D → Bool) : D → Bool
  | .tl m ds => (decide (m ≠ n) || p (edL n f ds)) && allNL n f p ds
  | .tup ds => allNL n f p ds
  | _ => true
def allNL (n : Nat) (f : List D → List D) (p : List D → Bool) : List D → Bool
  | [] => true
  | d :: ds => allN n f p d && allNL n f p ds
end
/-- tags and addresses, one for one -/
structure TagOk (G : GI) : Prop where
  one : ∀ H a b n, G.clo H a n [] → G.clo H b n [] → a = b
  tag : ∀ H a m n, G.clo H a m [] → G.clo H a n [] → m = n
mutual
theorem own_fnd {n : Nat} {ds0 : List D} : ∀ (d : D) {k : Nat} {v : V} {fp : List Addr}, Own G Z H k v d fp → ldep d ≤ k → fnd n d = some ds0 → ∃ a vs k' fp', G.clo H a n [] ∧ a ∈ fp ∧ H a = some (.lst vs) ∧ OwnL G Z H k' vs ds0 fp'
  | .tl m ds, k, v, fp, h, hk, e => by
    obtain ⟨a, rfl, hc, h⟩ := own_tl h
    simp only [ldep] at hk
    cases h with
    | lst z e2 hl => omega
    | own e2 hl =>
      simp only [fnd] at e
      split at e
      · rename_i hm
        subst hm
        cases e
        exact ⟨a, _, _, _, hc, List.mem_cons_self, e2, hl⟩
      · obtain ⟨b, ws, k', fp', c1, c2, c3, c4⟩ := ownL_fnd ds hl (by omega) e
        exact ⟨b, ws, k', fp', c1, List.mem_cons_of_mem _ c2, c3, c4⟩
  | .tup ds, k, v, fp, h, hk, e => by
    cases h with
    | tup e2 hl => exact ownL_fnd ds hl (by simpa only [ldep] using hk) (by simpa only [fnd] using e)
  | .non, _, _, _, _, _, e => by simp [fnd] at e
  | .bl _, _, _, _, _, _, e => by simp [fnd] at e
  | .int _, _, _, _, _, _, e => by simp [fnd] at e
  | .str _, _, _, _, _, _, e => by simp [fnd] at e
  | .lst _, _, _, _, _, _, e => by simp [fnd] at e
  | .edict, _, _, _, _, _, e => by simp [fnd] at e
  | .fn _, _, _, _, _, _, e => by simp [fnd] at e
  | .exc _ _, _, _, _, _, _, e => by simp [fnd] at e
  | .scr _, _, _, _, _, _, e => by simp [fnd] at e
  | .clo _ _, _, _, _, _, _, e => by simp [fnd] at e
theorem ownL_fnd {n : Nat} {ds0 : List D} : ∀ (ds : List D) {k : Nat} {vs : List V} {fp : List Addr}, OwnL G Z H k vs ds fp → ldepL ds ≤ k → fndL n ds = some ds0 → ∃ a vs k' fp', G.clo H a n [] ∧ a ∈ fp ∧ H a = some (.lst vs) ∧ OwnL G Z H k' vs ds0 fp'
  | [], _, _, _, _, _, e => by simp [fndL] at e
  | d :: ds, k, vs, fp, h, hk, e => by
    simp only [ldepL] at hk
    cases h with
    | cons h1 h2 =>
      simp only [fndL] at e
      cases q : fnd n d with
      | some r =>
        rw [q] at e
        cases e
        obtain ⟨b, ws, k', fp', c1, c2, c3, c4⟩ := own_fnd d h1 (by omega) q
        exact ⟨b, ws, k', fp', c1, List.mem_append_left _ c2, c3, c4⟩
      | none =>
        rw [q] at e
        obtain ⟨b, ws, k', fp', c1, c2, c3, c4⟩ := ownL_fnd ds h2 (by omega) e
        exact ⟨b, ws, k', fp', c1, List.mem_append_right _ c2, c3, c4⟩
end
mutual
theorem own_ed {n : Nat} {f : List D → List D} {p : List D → Bool} {a : Addr} {vs : List V} {fV : List V → List V} (TO : TagOk G) (hc : G.clo H a n []) (ha : H a = some (.lst vs)) (az : ¬ Z a) (hI : StayI H (upd H a (.lst (fV vs))))
    (hF : ∀ k ds fp, p ds = true → OwnL G Z (upd H a (.lst (fV vs))) k vs ds fp → OwnL G Z (upd H a (.lst (fV vs))) k (fV vs) (f ds) fp) :
    ∀ (d : D) {k : Nat} {v : V} {fp : List Addr}, Own G Z H k v d fp → allT d = true → allN n f p d = true → Own G Z (upd H a (.lst (fV vs))) k v (edAt n f d) fp
  | .tl m ds, k, v, fp, h, ht, hn => by
    obtain ⟨b, rfl, hb, h⟩ := own_tl h
    simp only [allT] at ht
    simp only [allN, Bool.and_eq_true, Bool.or_eq_true, decide_eq_true_eq] at hn
    simp only [edAt]
    refine .tag (G.cloS _ _ _ _ _ hI hb) ?_
    cases h with
    | lst z e2 hl =>
      have nb : b ≠ a := fun q => az (q ▸ z)
      have nm : m ≠ n := fun q => nb (TO.one _ _ _ _ (q ▸ hb) hc)
      rw [if_neg nm]
      exact .lst z (by rw [upd_ne nb]; exact e2) (ownL_ed TO hc ha az hI hF ds hl ht hn.2)
    | own e2 hl =>
      have hl' := ownL_ed TO hc ha az hI hF ds hl ht hn.2
      by_cases nm : m = n
      · subst nm
        obtain rfl := TO.one _ _ _ _ hb hc
        rw [ha] at e2; cases e2
        rw [if_pos rfl]
        exact .own upd_same (hF _ _ _ (hn.1.resolve_left fun q => q rfl) hl')
      · have nb : b ≠ a := fun q => nm (TO.tag _ _ _ _ (q ▸ hb) hc)
        rw [if_neg nm]
        exact .own (by rw [upd_ne nb]; exact e2) hl'
  | .tup ds, k, v, fp, h, ht, hn => by
    cases h with
    | tup e2 hl =>
      simp only [edAt]
      exact .tup (hI _ _ e2 fun z => z) (ownL_ed TO hc ha az hI hF ds hl (by simpa only [allT] using ht) (by simpa only [allN] using hn))
  | .non, _, _, _, h, _, _ => by cases h; exact .non
  | .bl _, _, _, _, h, _, _ => by cases h; exact .bl
  | .int _, _, _, _, h, _, _ => by cases h; exact .int
  | .str _, _, _, _, h, _, _ => by cases h; exact .str
  | .lst _, _, _, _, _, ht, _ => by simp [allT] at ht
  | .edict, _, _, _, _, ht, _ => by simp [allT] at ht
  | .fn _, _, _, _, _, ht, _ => by simp [allT] at ht
  | .exc _ _, _, _, _, _, ht, _ => by simp [allT] at ht
  | .scr _, _, _, _, _, ht, _ => by simp [allT] at ht
  | .clo _ _, _, _, _, _, ht, _ => by simp [allT] at ht
theorem ownL_ed {n : Nat} {f : List D → List D} {p : List D → Bool} {a : Addr} {vs : List V} {fV : List V → List V} (TO : TagOk G) (hc : G.clo H a n []) (ha : H a = some (.lst vs)) (az : ¬ Z a) (hI : StayI H (upd H a (.lst (fV vs))))
    (hF : ∀ k ds fp, p ds = true → OwnL G Z (upd H a (.lst (fV vs))) k vs ds fp → OwnL G Z (upd H a (.lst (fV vs))) k (fV vs) (f ds) fp) :
    ∀ (ds : List D) {k : Nat} {ws : List V} {fp : List Addr}, OwnL G Z H k ws ds fp → allTL ds = true → allNL n f p ds = true → OwnL G Z (upd H a (.lst (fV vs))) k ws (edL n f ds) fp
  | [], _, _, _, h, _, _ => by cases h; exact .nil
  | d :: ds, k, ws, fp, h, ht, hn => by
    simp only [allTL, Bool.and_eq_true] at ht
    simp only [allNL, Bool.and_eq_true] at hn
    cases h with
    | cons h1 h2 => exact .cons (own_ed TO hc ha az hI hF d h1 ht.1 hn.1) (ownL_ed TO hc ha az hI hF ds h2 ht.2 hn.2)
end
/-- an object of a slot's tree, changed -/
theorem Cfg.mutD {t : Nat} {a : Addr} {o0 o : HO} {d d' : D} {v : V} (C : Cfg G B lk Z σ H Γ en fps) (et : en[t]? = some (some d)) (es : σ[t]? = some (some v)) (ha : a ∈ fps t) (h0 : H a = some o0) (c0 : Chg o0) (ht : t ∉ lk) (hO : Own G Z (upd H a o) (Γ.getD t 0) v d' (fps t)) (no : NT o := by exact fun _ z => nomatch z) :
    Cfg G B lk Z σ (upd H a o) Γ (en.set t (some d')) fps := by
  have htl : t < en.length := (List.getElem?_eq_some_iff.mp et).1
  have az : ¬ Z a := C.nz t a ha
  have keepI : StayI H (upd H a o) := fun b o' q n => upd_at q fun z => by subst z; rw [h0] at q; cases q; exact n c0.t
  have keepZ : ∀ b, Z b → Z b ∧ ∀ o', H b = some o' → upd H a o b = some o' := fun b z => ⟨z, fun o' q => upd_at q fun (y : b = a) => az (y ▸ z)⟩
  have an : B.F a ∨ B.H a = none := by
    rcases C.newf t a ha with y | y | y
    · exact .inl y
    · exact absurd (C.bok.lki t a y) ht
    · exact .inr y
  exact {
    bok := C.bok
    len := by rw [List.length_set]; exact C.len
    rep := fun j e' q => by
      by_cases hj : j = t
      · subst hj
        rw [List.getElem?_set_self htl] at q
        cases q
        exact ⟨v, es, hO⟩
      · rw [List.getElem?_set_ne (Ne.symm hj)] at q
        obtain ⟨w, h1, h2⟩ := C.rep j e' q
        exact ⟨w, h1, own_keep keepI keepZ h2 fun b m o' q => upd_at q fun (y : b = a) => hj (C.dis j t a (y ▸ m) ha)⟩
    emp := fun j q => by
      by_cases hj : j = t
      · subst hj
        exact absurd (List.getElem?_set_self htl) (q d')
      · exact C.emp j fun d q' => q d (by rw [List.getElem?_set_ne (Ne.symm hj)]; exact q')
    nd := C.nd
    dis := C.dis
    nz := C.nz
    zt := fun b z => by
      obtain ⟨o', q, t⟩ := C.zt b z
      exact ⟨o', upd_at q fun (y : b = a) => az (y ▸ z), t⟩
    tab := tabs_upd C.tab h0 c0 no
    keep := fun b o' q n => by
      rw [upd_ne fun (y : b = a) => by
        subst y
        rcases an with y | y
        · exact n y
        · rw [q] at y; cases y]
      exact C.keep b o' q n
    newf := C.newf
    lkd := C.lkd
    lks := C.lks
    zb := C.zb
    zn := C.zn
    pin := C.pin }
def mTApp (i t k : Nat) (x : D) : EM := fun en => match en[i]? with
  | some (some (.clo n [])) => match en[t]? with
    | some (some d) => match fnd n d with
      | some ds => if allT d && decide (ldep d ≤ k) && decide (ds.length < lim) then .ok .non (en.set t (some (edAt n (· ++ [x]) d))) else .bad
      | none => .bad
    | _ => .bad
  | _ => .bad
theorem allN_true (n : Nat) (f : List D → List D) : ∀ d, allN n f (fun _ => true) d = true := by
  intro d
  suffices h : (∀ d, allN n f (fun _ => true) d = true) from h d
  have key : ∀ (d : D), allN n f (fun _ => true) d = true := fun d => by
    refine D.rec (motive_1 := fun d => allN n f (fun _ => true) d = true) (motive_2 := fun ds => allNL n f (fun _ => true) ds = true) ?_ ?_ ?_ ?_ ?_ ?_ ?_ ?_ ?_ ?_ ?_ ?_ ?_ ?_ d
    all_goals intros
    all_goals simp_all [allN, allNL]
  exact key
theorem own_clo0 {n : Nat} {fp : List Addr} (h : Own G Z H k v (.clo n []) fp) : ∃ a, v = .ref a ∧ G.clo H a n [] := by
  cases h with
  | clo hc hl => cases hl; exact ⟨_, rfl, hc⟩
/-- a text appended to a list known by its tag -/
theorem ei_tapp {i t j : Nat} {x z : Str} {p apos cp : Pos} (TO : TagOk G) (hN : X.N[i]? = some x) (hv : Vis X.env.scope x) (hk : Γ.getD t 0 = k) (ht : t ∉ lk := by decide) (hd : (x == ("__debug__" : Str)) = false := by decide) (hcd : (x == ("__classdict__" : Str)) = false := by decide)
    (hbase : attributeBase (.Name x p) "append" X.env (eval (.Name x p) X.env) = eval (.Name x p) X.env := by rfl)
    (hfew : ((backTo pos (starEach (.Constant (.str z) j cp :: []) X.env)).all (fun x => !x.1) && (backToKw pos (keywordEach [] X.env)).all (fun x => x.1.isSome)
      && decide ((Expr.Constant (.str z) j cp :: ([] : List Expr)).length + ([] : List Keyword).length + (if ([] : List Keyword).isEmpty then 0 else 1) < 30)) = true := by rfl)
    (hline : (apos.endLine == pos.line) = true := by rfl) (hs : starEach (.Constant (.str z) j cp :: []) X.env = (false, eval (.Constant (.str z) j cp) X.env) :: starEach [] X.env := by rfl) :
    EI X G W lk Γ (.Call (.Attribute (.Name x p) "append" apos) [.Constant (.str z) j cp] [] pos) κ' [] Γ (mTApp i t k (.str z)) :=
  PE.imp (pe_bm PySem.F.plainAttrs_list PySem.F.slot_list_append PySem.F.type_list_append mt_append (pe_var hN hv hd hcd) (pa_cons pe_str pa_nil hs) hbase hfew hline hs rfl) fun σ H Q ⟨B, Z, en, fps, C, o⟩ => by
    unfold mTApp at o
    split at o
    · rename_i n ei
      split at o
      · rename_i d et
        split at o
        · rename_i ds ef
          split at o
          · rename_i hc
            simp only [Bool.and_eq_true, decide_eq_true_eq] at hc
            obtain ⟨v, s1, s2⟩ := C.rep i _ ei
            obtain ⟨a, rfl, hcl⟩ := own_clo0 s2
            obtain ⟨w, t1, t2⟩ := C.rep t _ et
            rw [hk] at t2
            obtain ⟨a', vs, k', fp', c1, c2, c3, c4⟩ := own_fnd d t2 hc.1.2 ef
            obtain rfl := TO.one _ _ _ _ hcl c1
            have hI : StayI H (upd H a (.lst ((· ++ [V.str z]) vs))) := fun b o' q n => upd_at q fun z => by subst z; rw [c3] at q; cases q; exact n trivial
            have ed := own_ed (f := (· ++ [D.str z])) (p := fun _ => true) (fV := (· ++ [V.str z])) TO hcl c3 (C.nz t a c2) hI (fun k ds fp _ h => by
              have q := h.append (OwnL.cons (G := G) (Z := Z) (fp := []) (fps := []) (.str (x := z)) .nil)
              simpa using q) d t2 hc.1.1 (allN_true _ _ d)
            rw [← hk] at ed
            have C2 := C.mutD (t := t) (a := a) et t1 c2 c3 trivial ht ed
            exact ⟨.ref a, s1, .inl ⟨rfl, vs, .inl (.of c3)⟩, a, vs, .str z, rfl, rfl, c3, by rw [c4.len]; exact Nat.lt_of_lt_of_le hc.2 (by decide), o _ _ _ _ [] C2 (.sc .non)⟩
          · exact o.elim
        · exact o.elim
      · exact o.elim
    · exact o.elim
def lastS (ds : List D) : Bool := match ds.getLast? with
  | some d => scD d
  | none => false
def mTPop (i t k : Nat) : EM := fun en => match en[i]? with
  | some (some (.clo n [])) => match en[t]? with
    | some (some d) => match fnd n d with
      | some ds => match ds.getLast? with
        | some x => if allT d && decide (ldep d ≤ k) && scD x && allN n List.dropLast lastS d then .ok x (en.set t (some (edAt n List.dropLast d))) else .bad
        | none => .bad
      | none => .bad
    | _ => .bad
  | _ => .bad
theorem ownL_drop : ∀ {ds : List D} {vs : List V} {fp : List Addr}, OwnL G Z H k vs ds fp → lastS ds = true → OwnL G Z H k vs.dropLast ds.dropLast fp := by
  intro ds
  induction ds with
  | nil => intro vs fp h e; cases e
  | cons d ds ih =>
    intro vs fp h e
    cases h with
    | cons h1 h2 =>
      rename_i v vs f1 f2
      cases ds with
      | nil =>
        cases h2
        have e : scD d = true := e
        obtain ⟨_, rfl⟩ := scD_scv h1 e
        exact .nil
      | cons d2 ds =>
        cases h2 with
        | @cons _ v2 _ vs2 _ _ _ g1 g2 =>
          have q := ih (.cons g1 g2) (by simpa [lastS] using e)
          exact .cons h1 q
theorem OwnL.lastV : ∀ {ds : List D} {vs : List V} {fp : List Addr} {x : D}, OwnL G Z H k vs ds fp → ds.getLast? = some x → scD x = true → ∃ y, vs[vs.length - 1]? = some y ∧ ScV y x := by
  intro ds vs fp x h e s
  have hl := h.len
  rw [List.getLast?_eq_getElem?] at e
  obtain ⟨y, fp', q1, q2, _⟩ := h.get e
  exact ⟨y, by rw [hl]; exact q1, (scD_scv q2 s).1⟩
/-- the last taken off a list known by its tag -/
theorem ei_tpop {i t : Nat} {x : Str} {p apos : Pos} (TO : TagOk G) (hN : X.N[i]? = some x) (hv : Vis X.env.scope x) (hk : Γ.getD t 0 = k) (ht : t ∉ lk := by decide) (hd : (x == ("__debug__" : Str)) = false := by decide) (hcd : (x == ("__classdict__" : Str)) = false := by decide)
    (hbase : attributeBase (.Name x p) "pop" X.env (eval (.Name x p) X.env) = eval (.Name x p) X.env := by rfl) (hline : (apos.endLine == pos.line) = true := by rfl) :
    EI X G W lk Γ (.Call (.Attribute (.Name x p) "pop" apos) [] [] pos) κ' [] Γ (mTPop i t k) :=
  PE.imp (pe_bm0 PySem.F.plainAttrs_list PySem.F.slot_list_pop PySem.F.type_list_pop mt_pop (pe_var hN hv hd hcd) hbase hline) fun σ H Q ⟨B, Z, en, fps, C, o⟩ => by
    unfold mTPop at o
    split at o
    · rename_i n ei
      split at o
      · rename_i d et
        split at o
        · rename_i ds ef
          split at o
          · rename_i x el
            split at o
            · rename_i hc
              simp only [Bool.and_eq_true, decide_eq_true_eq] at hc
              obtain ⟨v, s1, s2⟩ := C.rep i _ ei
              obtain ⟨a, rfl, hcl⟩ := own_clo0 s2
              obtain ⟨w, t1, t2⟩ := C.rep t _ et
              rw [hk] at t2
              obtain ⟨a', vs, k', fp', c1, c2, c3, c4⟩ := own_fnd d t2 hc.1.1.2 ef
              obtain rfl := TO.one _ _ _ _ hcl c1
              have hI : StayI H (upd H a (.lst (List.dropLast vs))) := fun b o' q n => upd_at q fun z => by subst z; rw [c3] at q; cases q; exact n trivial
              have ed := own_ed (f := List.dropLast) (p := lastS) (fV := List.dropLast) TO hcl c3 (C.nz t a c2) hI (fun k ds fp hp h => ownL_drop h hp) d t2 hc.1.1.1 hc.2
              rw [← hk] at ed
              have C2 := C.mutD (t := t) (a := a) et t1 c2 c3 trivial ht ed
              obtain ⟨y, y1, y2⟩ := c4.lastV el hc.1.2
              exact ⟨.ref a, s1, .inl ⟨rfl, vs, .inl (.of c3)⟩, a, vs, y, rfl, rfl, c3, y1, o _ _ _ _ [] C2 (.sc y2)⟩
            · exact o.elim
          · exact o.elim
        · exact o.elim
      · exact o.elim
    · exact o.elim
/-! ### tags given at the start of a def -/
mutual
def noTag : D → Bool
  | .tl _ _ | .clo _ _ => false
  | .tup ds | .lst ds => noTagL ds
  | .exc _ x => noTag x
  | _ => true
def noTagL : List D → Bool
  | [] => true
  | d :: ds => noTag d && noTagL ds
end
section
variable {fn cls : Str → Option Addr} {cl cl' : ClT}
mutual
theorem own_regen : ∀ (d : D) {k : Nat} {v : V} {fp : List Addr}, noTag d = true → Own (mkG K fn cls cl) Z H k v d fp → Own (mkG K fn cls cl') Z H k v d fp
  | .tup ds, k, v, fp, hn, h => by
    cases h with
    | tup e hl => exact .tup e (ownL_regen ds (by simpa only [noTag] using hn) hl)
  | .lst ds, k, v, fp, hn, h => by
    have hn := (show noTagL ds = true by simpa only [noTag] using hn)
    cases h with
    | lst z e hl => exact .lst z e (ownL_regen ds hn hl)
    | own e hl => exact .own e (ownL_regen ds hn hl)
  | .exc c x, k, v, fp, hn, h => by
    cases h with
    | exc e h => exact .exc e (own_regen x (by simpa only [noTag] using hn) h)
  | .non, _, _, _, _, h => by cases h; exact .non
  | .bl _, _, _, _, _, h => by cases h; exact .bl
  | .int _, _, _, _, _, h => by cases h; exact .int
  | .str _, _, _, _, _, h => by cases h; exact .str
  | .edict, _, _, _, _, h => by
    cases h with
    | ed0 z e => exact .ed0 z e
    | edS e => exact .edS e
  | .fn _, _, _, _, _, h => by
    cases h with
    | fn e => exact .fn e
  | .scr _, _, _, _, _, h => by
    cases h with
    | scr e => exact .scr e
  | .clo _ _, _, _, _, hn, _ => by simp [noTag] at hn
  | .tl _ _, _, _, _, hn, _ => by simp [noTag] at hn
theorem ownL_regen : ∀ (ds : List D) {k : Nat} {vs : List V} {fp : List Addr}, noTagL ds = true → OwnL (mkG K fn cls cl) Z H k vs ds fp → OwnL (mkG K fn cls cl') Z H k vs ds fp
  | [], _, _, _, _, h => by cases h; exact .nil
  | d :: ds, k, vs, fp, hn, h => by
    simp only [noTagL, Bool.and_eq_true] at hn
    cases h with
    | cons h1 h2 => exact .cons (own_regen d hn.1 h1) (ownL_regen ds hn.2 h2)
end
mutual
def nls : D → Nat
  | .lst ds => nlsL ds + 1
  | .tup ds => nlsL ds
  | _ => 0
def nlsL : List D → Nat
  | [] => 0
  | d :: ds => nls d + nlsL ds
end
mutual
def tagD (n : Nat) : D → D
  | .lst ds => .tl n (tagL (n + 1) ds)
  | .tup ds => .tup (tagL n ds)
  | .non => .non
  | .bl b => .bl b
  | .int i => .int i
  | .str x => .str x
  | .tl m ds => .tl m ds
  | .edict => .edict
  | .fn x => .fn x
  | .exc c v => .exc c v
  | .scr ns => .scr ns
  | .clo n xs => .clo n xs
def tagL (n : Nat) : List D → List D
  | [] => []
  | d :: ds => tagD n d :: tagL (n + nls d) ds
end
mutual
/-- lists, tuples, scalars -/
def pln : D → Bool
  | .lst ds | .tup ds => plnL ds
  | .non | .bl _ | .int _ | .str _ => true
  | _ => false
def plnL : List D → Bool
  | [] => true
  | d :: ds => pln d && plnL ds
end
mutual
theorem own_nls : ∀ (d : D) {k : Nat} {v : V} {fp : List Addr}, Own (mkG K fn cls cl) Z H k v d fp → pln d = true → ldep d ≤ k → fp.length = nls d
  | .lst ds, k, v, fp, h, hp, hk => by
    have hp := (show plnL ds = true by simpa only [pln] using hp)
    simp only [ldep] at hk
    cases h with
    | lst z e hl => omega
    | own e hl => simp only [nls, List.length_cons, ownL_nls ds hl hp (by omega)]
  | .tup ds, k, v, fp, h, hp, hk => by
    cases h with
    | tup e hl => simpa only [nls] using ownL_nls ds hl (by simpa only [pln] using hp) (by simpa only [ldep] using hk)
  | .non, _, _, _, h, _, _ => by cases h; rfl
  | .bl _, _, _, _, h, _, _ => by cases h; rfl
  | .int _, _, _, _, h, _, _ => by cases h; rfl
  | .str _, _, _, _, h, _, _ => by cases h; rfl
  | .edict, _, _, _, _, hp, _ => by simp [pln] at hp
  | .fn _, _, _, _, _, hp, _ => by simp [pln] at hp
  | .exc _ _, _, _, _, _, hp, _ => by simp [pln] at hp
  | .scr _, _, _, _, _, hp, _ => by simp [pln] at hp
  | .clo _ _, _, _, _, _, hp, _ => by simp [pln] at hp
  | .tl _ _, _, _, _, _, hp, _ => by simp [pln] at hp
theorem ownL_nls : ∀ (ds : List D) {k : Nat} {vs : List V} {fp : List Addr}, OwnL (mkG K fn cls cl) Z H k vs ds fp → plnL ds = true → ldepL ds ≤ k → fp.length = nlsL ds
  | [], _, _, _, h, _, _ => by cases h; rfl
  | d :: ds, k, vs, fp, h, hp, hk => by
    simp only [plnL, Bool.and_eq_true] at hp
    simp only [ldepL] at hk
    cases h with
    | cons h1 h2 => rw [List.length_append, own_nls d h1 hp.1 (by omega), ownL_nls ds h2 hp.2 (by omega)]; rfl
end
mutual
theorem own_tag : ∀ (d : D) {n k : Nat} {v : V} {fp : List Addr}, Own (mkG K fn cls cl) Z H k v d fp → pln d = true → ldep d ≤ k → (∀ i a, fp[i]? = some a → cl'.cl H a (n + i) []) → Own (mkG K fn cls cl') Z H k v (tagD n d) fp
  | .lst ds, n, k, v, fp, h, hp, hk, hc => by
    have hp := (show plnL ds = true by simpa only [pln] using hp)
    simp only [ldep] at hk
    simp only [tagD]
    cases h with
    | lst z e hl => omega
    | own e hl =>
      refine .tag (hc 0 _ rfl) (.own e (ownL_tag ds hl hp (by omega) fun i b hb => ?_))
      have := hc (i + 1) b (by simpa using hb)
      rwa [show n + (i + 1) = n + 1 + i by omega] at this
  | .tup ds, n, k, v, fp, h, hp, hk, hc => by
    simp only [tagD]
    cases h with
    | tup e hl => exact .tup e (ownL_tag ds hl (by simpa only [pln] using hp) (by simpa only [ldep] using hk) hc)
  | .non, _, _, _, _, h, _, _, _ => by cases h; exact .non
  | .bl _, _, _, _, _, h, _, _, _ => by cases h; exact .bl
  | .int _, _, _, _, _, h, _, _, _ => by cases h; exact .int
  | .str _, _, _, _, _, h, _, _, _ => by cases h; exact .str
  | .edict, _, _, _, _, _, hp, _, _ => by simp [pln] at hp
  | .fn _, _, _, _, _, _, hp, _, _ => by simp [pln] at hp
  | .exc _ _, _, _, _, _, _, hp, _, _ => by simp [pln] at hp
  | .scr _, _, _, _, _, _, hp, _, _ => by simp [pln] at hp
  | .clo _ _, _, _, _, _, _, hp, _, _ => by simp [pln] at hp
  | .tl _ _, _, _, _, _, _, hp, _, _ => by simp [pln] at hp
theorem ownL_tag : ∀ (ds : List D) {n k : Nat} {vs : List V} {fp : List Addr}, OwnL (mkG K fn cls cl) Z H k vs ds fp → plnL ds = true → ldepL ds ≤ k → (∀ i a, fp[i]? = some a → cl'.cl H a (n + i) []) → OwnL (mkG K fn cls cl') Z H k vs (tagL n ds) fp
  | [], _, _, _, _, h, _, _, _ => by cases h; exact .nil
  | d :: ds, n, k, vs, fp, h, hp, hk, hc => by
    simp only [plnL, Bool.and_eq_true] at hp
    simp only [ldepL] at hk
    simp only [tagL]
    cases h with
    | cons h1 h2 =>
      rename_i f1 f2
      have l1 := own_nls d h1 hp.1 (by omega)
      refine .cons (own_tag d h1 hp.1 (by omega) fun i a ha => hc i a ?_) (ownL_tag ds h2 hp.2 (by omega) fun i a ha => ?_)
      · have hi := (List.getElem?_eq_some_iff.mp ha).1
        rw [List.getElem?_append_left hi]; exact ha
      · have := hc (nls d + i) a (by rw [← l1, List.getElem?_append_right (by omega), show f1.length + i - f1.length = i by omega]; exact ha)
        rwa [show n + (nls d + i) = n + nls d + i by omega] at this
end
/-- the addresses as, by their places -/
def byAd (as : List Addr) : Addr → Nat → List V → Prop := fun a n vs => as[n]? = some a ∧ vs = []
/-- a tag is an address -/
def ClT.tag (cl : ClT) (as : List Addr) : ClT := ⟨cl.T, fun _ => byAd as, fun _ _ _ _ _ _ h => h⟩
theorem tagOk_ad {as : List Addr} (nd : as.Nodup) : TagOk (mkG K fn cls (cl.tag as)) where
  one := fun H a b n ⟨h1, _⟩ ⟨h2, _⟩ => by rw [h1] at h2; exact Option.some.inj h2
  tag := fun H a m n ⟨h1, _⟩ ⟨h2, _⟩ => by
    have h1 : as[m]? = some a := h1
    have h2 : as[n]? = some a := h2
    have l1 := (List.getElem?_eq_some_iff.mp h1)
    have l2 := (List.getElem?_eq_some_iff.mp h2)
    obtain ⟨i1, e1⟩ := l1
    obtain ⟨i2, e2⟩ := l2
    have p := List.pairwise_iff_getElem.mp nd
    rcases Nat.lt_trichotomy m n with q | q | q
    · exact absurd (e1.trans e2.symm) (p m n i1 i2 q)
    · exact q
    · exact absurd (e2.trans e1.symm) (p n m i2 i1 q)
def noTagO : En → Bool
  | [] => true
  | none :: l => noTagO l
  | some d :: l => noTag d && noTagO l
theorem noTagO_at : ∀ {l : En} {j : Nat} {d : D}, noTagO l = true → l[j]? = some (some d) → noTag d = true
  | [], j, d, _, e => by simp at e
  | none :: l, 0, d, _, e => by simp at e
  | none :: l, j + 1, d, h, e => noTagO_at (l := l) (by simpa only [noTagO] using h) (by simpa using e)
  | some x :: l, 0, d, h, e => by
    simp only [noTagO, Bool.and_eq_true] at h
    simp at e
    subst e
    exact h.1
  | some x :: l, j + 1, d, h, e => by
    simp only [noTagO, Bool.and_eq_true] at h
    exact noTagO_at (l := l) h.2 (by simpa using e)
/-- F, its second parameter's lists tagged -/
def tagF (k : Nat) (F : List D → FRes) : List D → FRes := fun ds => match ds with
  | [g, t, gv] => if noTag g && noTag gv && pln t && decide (ldep t ≤ k) then match F [g, tagD 0 t, gv] with
      | .ok d ios => if noTag d && noTagO ios then .ok d ios else .bad
      | _ => .bad
    else .bad
  | _ => .bad
theorem spI_tag {κr : Nat} {F : List D → FRes} {io : List (Option Nat)} {vs : List V} {Q : VK} {E : XK} (h : spI (mkG K fn cls cl) ⟨[1, k, 0], io, κr⟩ (tagF k F) vs H Q E) : ∃ as : List Addr, as.Nodup ∧ spI (mkG K fn cls (cl.tag as)) ⟨[1, k, 0], io, κr⟩ F vs H Q E := by
  obtain ⟨hl, Z, ds, f, zt, ha, he⟩ := h
  match ds, he with
  | [g, t, gv], he =>
    unfold tagF at he
    dsimp only at he
    split at he
    · rename_i hc
      simp only [Bool.and_eq_true, decide_eq_true_eq] at hc
      refine ⟨f 1, ha.nd 1, hl, Z, [g, tagD 0 t, gv], f, zt, ⟨fun j d e => ?_, ha.len, ha.emp, ha.nd, ha.dis, ha.nz⟩, ?_⟩
      · match j, e with
        | 0, e =>
          cases e
          obtain ⟨v, h1, h2⟩ := ha.own 0 g rfl
          exact ⟨v, h1, own_regen g hc.1.1.1 h2⟩
        | 1, e =>
          cases e
          obtain ⟨v, h1, h2⟩ := ha.own 1 t rfl
          exact ⟨v, h1, own_tag t h2 hc.1.2 hc.2 fun i a q => ⟨by rw [Nat.zero_add]; exact q, rfl⟩⟩
        | 2, e =>
          cases e
          obtain ⟨v, h1, h2⟩ := ha.own 2 gv rfl
          exact ⟨v, h1, own_regen gv hc.1.1.2 h2⟩
        | j + 3, e => simp at e
      · cases eF : F [g, tagD 0 t, gv] with
        | bad => rw [eF] at he; exact he
        | exc c x => rw [eF] at he; exact he.elim
        | ok d ios =>
          rw [eF] at he
          dsimp only at he
          split at he
          · rename_i hd
            rw [Bool.and_eq_true] at hd
            intro v Z' H' fr f' x
            exact he v Z' H' fr f' ⟨x.keep, x.tab, x.zb, x.zn, x.zt, own_regen d hd.1 x.own, x.nd, x.nz, x.nw, fun j d' q => by
              obtain ⟨k, w, q1, q2, q3⟩ := x.io j d' q
              exact ⟨k, w, q1, q2, own_regen d' (noTagO_at hd.2 q) q3⟩, x.ind, x.inz, x.inw, x.ap⟩
          · exact he.elim
    · exact he.elim
  | [], he => exact he.elim
  | [_], he => exact he.elim
  | [_, _], he => exact he.elim
  | _ :: _ :: _ :: _ :: _, he => exact he.elim
/-- a def that tags its second parameter's lists -/
theorem fn_tag {P : Program} {w : World} {mg : Str → Option Value} {base : Heap} {kk : Nat} {f : Addr} {fd : FuncData} {ps : List Str} {κr : Nat} {io : List (Option Nat)} {F : List D → FRes} (hps : ps.length = 3)
    (h : ∀ as : List Addr, as.Nodup → FnG P w K mg base (L2.CX P w) kk f fd ps (spI (mkG K fn cls (cl.tag as)) ⟨[1, k, 0], io, κr⟩ F)) : FnG P w K mg base (L2.CX P w) kk f fd ps (spI (mkG K fn cls cl) ⟨[1, k, 0], io, κr⟩ (tagF k F)) :=
  ⟨fun vs H Q E q => by rw [hps]; exact q.1, fun A outer s H args us vs Q E hg hr e0 hb r q => by
    obtain ⟨as, nd, q⟩ := spI_tag q
    exact (h as nd).run A outer s H args us vs Q E hg hr e0 hb r q⟩
end
end
end Im
/-! xs[i] += c. -/
namespace Im
open PySem PySem.Spec PyProof.Rows L2
section
variable {G : GI} {B B' : Bs} {W : WX} {lk lk' L L' La Lb : List Nat} {Z Z' : Addr → Prop} {σ σ' : St} {H H' : Hp} {Γ Γ' Γ0 Γ1 Γ2 Γ3 : List Nat} {en en' : En} {fps fps' : Nat → List Addr} {κ κ' k : Nat} {κs : List Nat} {v : V} {d : D} {ro : RO}
variable {X : Cx} {pos : Pos} {m ma mb mc : EM} {e a b c : Expr} {K : PySem.W.Frag}
theorem get_listL : PGet X (rIxL X.K) := by
  intro pins s σ H x y v u Q I rx ry h
  obtain ⟨p, xs, i, z, rfl, rfl, hq, he, q⟩ := h
  cases rx
  obtain ⟨t, rfl⟩ := ry
  obtain ⟨its, r, pl, hz⟩ := I.list hq
  obtain ⟨j, h1, h2, h3, h4, h5⟩ := atI_get he
  obtain ⟨w, ew, rw'⟩ := r.get h2
  have hl := r.length
  have hn := line63
  have fin : EP X pins σ Q w s := ⟨z, H, I, rw', q⟩
  by_cases h0 : 0 ≤ i
  · have hj : i.toNat = j := Option.some.inj ((seqIndex_of h0 h5).symm.trans h1)
    exact wpAny_getItem_list pl.isList h0 (by omega) (by rw [hj]; simpa using ew) fin
  · have hj : (i + (its.toArray.size : Int)).toNat = j := by
      rw [List.size_toArray, ← hl]
      exact Option.some.inj ((seqIndex_neg (by omega) h4).symm.trans h1)
    exact wpAny_getItem_list_neg pl.isList (by omega) (by rw [List.size_toArray] <;> omega) (by omega) (by rw [hj]; simpa using ew) fin
def mAugC (i : Nat) (m : EM) (q : Int) : SM := fun en => match atL i en with
  | some _ => match m en with
    | .ok (.int j) en2 => match atL i en2 with
      | some ds => match ixN ds.length j with
        | some n => match ds[n]? with
          | some (.int x) => .nx (en2.set i (some (.lst (ds.set n (.int (x + q))))))
          | _ => .bad
        | none => .bad
      | none => .bad
    | .ok _ _ => .bad
    | .exc c x => .exc c x
    | .bad => .bad
  | none => .bad
theorem si_augC {i kc : Nat} {q : Int} {x : Str} {p tpos cp : Pos} {md : Md} (hN : X.N[i]? = some x) (hv : Vis X.env.scope x) (hk : Γ.getD i 0 = 1) (hk1 : Γ1.getD i 0 = 1) (hb : OI X G W lk Γ b md Γ1 m) (hi : i ∉ lk := by decide) (hd : (x == ("__debug__" : Str)) = false := by decide) (hcd : (x == ("__classdict__" : Str)) = false := by decide)
    (ha : ∀ ov iv new, augStore b ov iv new = (do holding [new, ov, iv] (setItem ov iv new); release [new, ov, iv] []; pure .next) := by intros; rfl) (hs : PlainIx b := by intro _ _; rfl) :
    SI X G W lk ro Γ (.AugAssign (.Subscript (.Name x p) b tpos) .Add (.Constant (.int q) kc cp) pos) Γ1 (mAugC i m q) :=
  PS.imp (ps_augS (pe_var hN hv hd hcd) hb get_listL pe_int ip_add set_list ha) fun D σ H ⟨B, Z, en, fps, P, C, o⟩ => by
    unfold mAugC at o
    cases e0 : atL i en with
    | none => rw [e0] at o; exact o.elim
    | some ds0 =>
      rw [e0] at o
      dsimp only at o
      obtain ⟨a, vs0, fp0, s1, s2, s3, s4⟩ := C.lst_at (k := 0) hk (atL_of e0)
      refine ⟨.ref a, s1, B, Z, en, fps, C, ?_⟩
      cases em : m en with
      | bad => rw [em] at o; exact o.elim
      | exc c x => rw [em] at o; exact fun Cc dd H' y => o Cc dd σ H' y
      | ok dj en2 =>
        rw [em] at o
        cases dj with
        | int j =>
          dsimp only at o
          intro w Z2 H2 fps2 C2 hw
          obtain ⟨_, _, _, qw⟩ := Md.any hw
          have ew := own_int qw
          subst ew
          cases e2 : atL i en2 with
          | none => rw [e2] at o; exact o.elim
          | some ds =>
            rw [e2] at o
            dsimp only at o
            cases en_ : ixN ds.length j with
            | none => rw [en_] at o; exact o.elim
            | some n =>
              rw [en_] at o
              dsimp only at o
              obtain ⟨a', vs, fq, t1, t2, t3, t4⟩ := C2.lst_at (k := 0) hk1 (atL_of e2)
              rw [s1] at t1; cases t1
              cases ed : ds[n]? with
              | none => rw [ed] at o; exact o.elim
              | some dx =>
                rw [ed] at o
                cases dx with
                | int x =>
                  dsimp only at o
                  obtain ⟨y, fy, y1, y2, _⟩ := t3.get ed
                  have ey := own_int y2
                  subst ey
                  obtain ⟨_, hn, _, _⟩ := ixN_seq en_
                  obtain rfl := t3.z0
                  have hvn : atI vs j = some (.int x) := by
                    unfold atI
                    rw [t3.len, en_]
                    exact y1
                  obtain ⟨f1, f2, f3, q1, q2⟩ := t3.put (fv := []) (.int (i := x + q)) hn
                  obtain ⟨rfl, q3⟩ := List.append_eq_nil_iff.mp q1.symm
                  obtain ⟨rfl, rfl⟩ := List.append_eq_nil_iff.mp q3
                  have C3 := C2.mut s1 hk1 t4 ⟨vs, t2⟩ hi q2 List.nodup_nil (fun h => nomatch h) (fun _ h => nomatch h) (fun _ h => nomatch h) (fun _ h => nomatch h)
                  exact ⟨a, vs, j, .int x, rfl, rfl, .inl (.of t2), hvn, x, q, rfl, rfl, a, vs, j, n, rfl, rfl, t2, by rw [t3.len]; exact en_, o _ _ _ _ C3⟩
                | _ => exact o.elim
        | _ => exact o.elim
/-! ### in short -/
theorem xL (i : Nat) {x : Str} (hN : X.N[i]? = some x := by rfl) (hv : Vis X.env.scope x := by first | exact Or.inl rfl | exact Or.inr (Or.inl rfl) | exact Or.inr (Or.inr rfl)) (hd : (x == ("__debug__" : Str)) = false := by decide) (hcd : (x == ("__classdict__" : Str)) = false := by decide) :
    EI X G W lk Γ (.Name x pos) 0 [i] Γ (mVar i) := ei_lend hN hv hd hcd
theorem xReprN (i : Nat) {x y : Str} {p px : Pos} (hc : CallR X (.builtin "repr") (rRepr X.K)) (lnk : Lk1 G (rRepr X.K) dRepr) (hg : Gl X x) (hm : X.mg x = none) (hvb : bootBuiltins x = some (.builtin "repr")) (hN : X.N[i]? = some y := by rfl) (hv : Vis X.env.scope y := by first | exact Or.inl rfl | exact Or.inr (Or.inl rfl) | exact Or.inr (Or.inr rfl)) (hn : x ≠ "__name__" := by decide) (hdb : (x == ("__debug__" : Str)) = false := by decide)
    (hd : (y == ("__debug__" : Str)) = false := by decide) (hcd : (y == ("__classdict__" : Str)) = false := by decide)
    (he : starEach (.Name y px :: []) X.env = (false, eval (.Name y px) X.env) :: starEach [] X.env := by rfl) : EI X G W lk Γ (.Call (.Name x p) [.Name y px] [] pos) κ [] Γ (m1 dRepr (mVar i)) :=
  ei_b1N hN hv hc lnk hg hm hvb hn hdb hd hcd he
end
end Im
/-! The mirror's words applied, for simp. -/
namespace Im
open PySem PySem.Spec PyProof.Rows L2
@[simp] theorem x_mSeq (m1 m2 : SM) (en : En) : mSeq m1 m2 en = (match m1 en with
  | .nx en' => m2 en'
  | r => r) := rfl
@[simp] theorem x_mIfS (mc : EM) (ma mb : SM) (en : En) : mIfS mc ma mb en = (match mc en with
  | .ok (.bl true) en1 => ma en1
  | .ok (.bl false) en1 => mb en1
  | .ok _ _ => .bad
  | .exc c x => .exc c x
  | .bad => .bad) := rfl
@[simp] theorem x_mOr (ma mb : EM) (en : En) : mOr ma mb en = (match ma en with
  | .ok (.bl true) en1 => .ok (.bl true) en1
  | .ok (.bl false) en1 => mb en1
  | .ok _ _ => .bad
  | .exc c x => .exc c x
  | .bad => .bad) := rfl
@[simp] theorem x_mAnd (ma mb : EM) (en : En) : mAnd ma mb en = (match ma en with
  | .ok (.bl true) en1 => mb en1
  | .ok (.bl false) en1 => .ok (.bl false) en1
  | .ok _ _ => .bad
  | .exc c x => .exc c x
  | .bad => .bad) := rfl
@[simp] theorem x_mNot (m : EM) (en : En) : mNot m en = (match m en with
  | .ok (.bl c) en' => .ok (.bl !c) en'
  | .ok _ _ => .bad
  | .exc c x => .exc c x
  | .bad => .bad) := rfl
@[simp] theorem x_mCall (F : List D → FRes) (p : List Nat) (ms : AM) (en : En) : mCall F p ms en = (match ms en with
  | .ok ds en' => match F (permL p ds) with
    | .ok d _ => .ok d en'
    | .exc c x => .exc c x
    | .bad => .bad
  | .exc c x => .exc c x
  | .bad => .bad) := rfl
@[simp] theorem x_mCallR (F : List D → FRes) (p : List Nat) (i j : Nat) (ms : AM) (en : En) : mCallR F p i j ms en = (match ms en with
  | .ok ds en' => match F (permL p ds) with
    | .ok d ios => match ios[j]? with
      | some (some d') => .ok d (en'.set i (some d'))
      | _ => .bad
    | .exc c x => .exc c x
    | .bad => .bad
  | .exc c x => .exc c x
  | .bad => .bad) := rfl
@[simp] theorem x_mCallV (xs : List Str) (F : Str → List D → FRes) (p : List Nat) (mf : EM) (ms : AM) (en : En) : mCallV xs F p mf ms en = (match mf en with
  | .ok (.fn x) en1 => if x ∈ xs then mCall (F x) p ms en1 else .bad
  | .ok _ _ => .bad
  | .exc c x => .exc c x
  | .bad => .bad) := rfl
@[simp] theorem x_mCons (m : EM) (ms : AM) (en : En) : mCons m ms en = (match m en with
  | .ok d en1 => match ms en1 with
    | .ok ds en2 => .ok (d :: ds) en2
    | .exc c x => .exc c x
    | .bad => .bad
  | .exc c x => .exc c x
  | .bad => .bad) := rfl
@[simp] theorem x_mNil  (en : En) : mNil  en = (.ok [] en) := rfl
@[simp] theorem x_mVar (i : Nat) (en : En) : mVar i en = (match en[i]? with
  | some (some d) => .ok d en
  | _ => .bad) := rfl
@[simp] theorem x_mVarS (i : Nat) (en : En) : mVarS i en = (match en[i]? with
  | some (some d) => if scD d then .ok d en else .bad
  | _ => .bad) := rfl
@[simp] theorem x_mMove (i : Nat) (en : En) : mMove i en = (match en[i]? with
  | some (some d) => .ok d (en.set i none)
  | _ => .bad) := rfl
@[simp] theorem x_mSee (i : Nat) (en : En) : mSee i en = (match en[i]? with
  | some (some (.lst ds)) => .ok (.lst ds) en
  | _ => .bad) := rfl
@[simp] theorem x_mChain (f f' : D → D → Option D) (ma mb mc : EM) (en : En) : mChain f f' ma mb mc en = (match mm2 ma mb en with
  | .ok d1 d2 en2 => if scD d2 then match f d1 d2 with
    | some (.bl true) => match mc en2 with
      | .ok d3 en3 => match f' d2 d3 with
        | some d => .ok d en3
        | none => .bad
      | .exc c x => .exc c x
      | .bad => .bad
    | some (.bl false) => .ok (.bl false) en2
    | _ => .bad
    else .bad
  | .exc c x => .exc c x
  | .bad => .bad) := rfl
@[simp] theorem x_mm2 (ma mb : EM) (en : En) : mm2 ma mb en = (match ma en with
  | .ok d1 en1 => match mb en1 with
    | .ok d2 en2 => .ok d1 d2 en2
    | .exc c x => .exc c x
    | .bad => .bad
  | .exc c x => .exc c x
  | .bad => .bad) := rfl
@[simp] theorem x_mC (d : D) (en : En) : mC d en = (.ok d en) := rfl
@[simp] theorem x_mB (f : D → D → Option D) (ma mb : EM) (en : En) : mB f ma mb en = (match mm2 ma mb en with
  | .ok d1 d2 en2 => match f d1 d2 with
    | some d => .ok d en2
    | none => .bad
  | .exc c x => .exc c x
  | .bad => .bad) := rfl
@[simp] theorem x_m1 (f : D → Option D) (m : EM) (en : En) : m1 f m en = (match m en with
  | .ok d en' => match f d with
    | some d' => .ok d' en'
    | none => .bad
  | .exc c x => .exc c x
  | .bad => .bad) := rfl
@[simp] theorem x_mTup (ms : AM) (en : En) : mTup ms en = (match ms en with
  | .ok ds en' => .ok (.tup ds) en'
  | .exc c x => .exc c x
  | .bad => .bad) := rfl
@[simp] theorem x_mLst (ms : AM) (en : En) : mLst ms en = (match ms en with
  | .ok ds en' => .ok (.lst ds) en'
  | .exc c x => .exc c x
  | .bad => .bad) := rfl
@[simp] theorem x_mSet (i : Nat) (m : EM) (en : En) : mSet i m en = (match m en with
  | .ok d en' => .nx (en'.set i (some d))
  | .exc c x => .exc c x
  | .bad => .bad) := rfl
@[simp] theorem x_mDrop (m : EM) (en : En) : mDrop m en = (match m en with
  | .ok _ en' => .nx en'
  | .exc c x => .exc c x
  | .bad => .bad) := rfl
@[simp] theorem x_mRet (io : List (Option Nat)) (m : EM) (en : En) : mRet io m en = (match m en with
  | .ok d en' => .rt d (maskE io en')
  | .exc c x => .exc c x
  | .bad => .bad) := rfl
@[simp] theorem x_mPass  (en : En) : mPass  en = (.nx en) := rfl
@[simp] theorem x_mRaise (c : Str) (m : EM) (en : En) : mRaise c m en = (match m en with
  | .ok d _ => .exc c d
  | .exc c x => .exc c x
  | .bad => .bad) := rfl
@[simp] theorem x_mIf (mc ma mb : EM) (en : En) : mIf mc ma mb en = (match mc en with
  | .ok (.bl true) en1 => ma en1
  | .ok (.bl false) en1 => mb en1
  | .ok _ _ => .bad
  | .exc c x => .exc c x
  | .bad => .bad) := rfl
@[simp] theorem x_mAsg (m : EM) (g : D → En → Option En) (en : En) : mAsg m g en = (match m en with
  | .ok d en' => match g d en' with
    | some en2 => .nx en2
    | none => .bad
  | .exc c x => .exc c x
  | .bad => .bad) := rfl
@[simp] theorem x_mgTup (n : Nat) (gs : List D → En → Option En) (d : D) (en : En) : mgTup n gs d en = (match d with
  | .tup ds => if ds.length = n then gs ds en else none
  | _ => none) := rfl
@[simp] theorem x_mgUnl (n : Nat) (gs : List D → En → Option En) (d : D) (en : En) : mgUnl n gs d en = (match d with
  | .lst ds => if ds.length = n then gs ds en else none
  | _ => none) := rfl
@[simp] theorem x_gCons (g : D → En → Option En) (gs : List D → En → Option En) (ds : List D) (en : En) : gCons g gs ds en = (match ds with
  | d :: ds => match g d en with
    | some en' => gs ds en'
    | none => none
  | [] => none) := rfl
@[simp] theorem x_gSet (i : Nat) (d : D) (en : En) : gSet i d en = (some (en.set i (some d))) := rfl
@[simp] theorem x_gNil  (ds : List D) (en : En) : gNil  ds en = (match ds with
  | [] => some en
  | _ => none) := rfl
@[simp] theorem x_gStore (i : Nat) (m : EM) (d : D) (en : En) : gStore i m d en = (match atL i en with
  | some _ => match m en with
    | .ok (.int j) en2 => match atL i en2 with
      | some ds => match ixN ds.length j with
        | some n => some (en2.set i (some (.lst (ds.set n d))))
        | none => none
      | none => none
    | _ => none
  | none => none) := rfl
@[simp] theorem x_mFor (mi : AM) (g : D → En → Option En) (mb : SM) (en : En) : mFor mi g mb en = (match mi en with
  | .ok ds en1 => loopM g mb ds en1
  | .exc c x => .exc c x
  | .bad => .bad) := rfl
@[simp] theorem x_mIt (f : D → Option (List D)) (m : EM) (en : En) : mIt f m en = (match m en with
  | .ok d en' => match f d with
    | some ds => .ok ds en'
    | none => .bad
  | .exc c x => .exc c x
  | .bad => .bad) := rfl
@[simp] theorem x_mRng1 (m : EM) (en : En) : mRng1 m en = (match m en with
  | .ok (.int j) en' => if rngOk j then .ok (rngD 0 j.toNat) en' else .bad
  | .ok _ _ => .bad
  | .exc c x => .exc c x
  | .bad => .bad) := rfl
@[simp] theorem x_mRng2 (ma mb : EM) (en : En) : mRng2 ma mb en = (match mm2 ma mb en with
  | .ok (.int i) (.int j) en' => if rngOk i && rngOk j then .ok (rngD i (j - i).toNat) en' else .bad
  | .ok _ _ _ => .bad
  | .exc c x => .exc c x
  | .bad => .bad) := rfl
@[simp] theorem x_mS (m : EM) (en : En) : mS m en = (match m en with
  | .ok (.str z) en' => .ok (.str z) en'
  | .ok _ _ => .bad
  | .exc c x => .exc c x
  | .bad => .bad) := rfl
@[simp] theorem x_mSc (m : EM) (en : En) : mSc m en = (match m en with
  | .ok d en' => if scD d then .ok d en' else .bad
  | r => r) := rfl
@[simp] theorem x_mSl (ma : EM) (ml mh : En → ResP) (en : En) : mSl ma ml mh en = (match ma en with
  | .ok d en1 => match ml en1 with
    | .ok lo en2 => match mh en2 with
      | .ok hi en3 => match dSlice d lo hi with
        | some d' => .ok d' en3
        | none => .bad
      | .exc c x => .exc c x
      | .bad => .bad
    | .exc c x => .exc c x
    | .bad => .bad
  | .exc c x => .exc c x
  | .bad => .bad) := rfl
@[simp] theorem x_mpN  (en : En) : mpN  en = (.ok none en) := rfl
@[simp] theorem x_mpS (m : EM) (en : En) : mpS m en = (match m en with
  | .ok (.int i) en' => .ok (some i) en'
  | .ok _ _ => .bad
  | .exc c x => .exc c x
  | .bad => .bad) := rfl
@[simp] theorem x_mLc (mi : AM) (g : D → En → Option En) (mt me : EM) (vs : List Nat) (en : En) : mLc mi g mt me vs en = (match mi en with
  | .ok ds en1 => compM g mt me vs ds [] (killE vs en1)
  | .exc c x => .exc c x
  | .bad => .bad) := rfl
@[simp] theorem x_mPar (i j : Nat) (ms : AM) (en : En) : mPar i j ms en = (match ms en with
  | .ok [d1, d2] en' => .nx ((en'.set i (some d1)).set j (some d2))
  | .ok _ _ => .bad
  | .exc c x => .exc c x
  | .bad => .bad) := rfl
@[simp] theorem x_mPar3 (i j l : Nat) (ms : AM) (en : En) : mPar3 i j l ms en = (match ms en with
  | .ok [d1, d2, d3] en' => .nx (((en'.set i (some d1)).set j (some d2)).set l (some d3))
  | .ok _ _ => .bad
  | .exc c x => .exc c x
  | .bad => .bad) := rfl
@[simp] theorem x_mAppend (i : Nat) (m : EM) (en : En) : mAppend i m en = (match atL i en with
  | some _ => match m en with
    | .ok d en2 => match atL i en2 with
      | some ds => if ds.length < lim then .ok .non (en2.set i (some (.lst (ds ++ [d])))) else .bad
      | none => .bad
    | .exc c x => .exc c x
    | .bad => .bad
  | none => .bad) := rfl
@[simp] theorem x_mPop (i : Nat) (en : En) : mPop i en = (match atL i en with
  | some ds => match ds[ds.length - 1]? with
    | some d => .ok d (en.set i (some (.lst (ds.eraseIdx (ds.length - 1)))))
    | none => .bad
  | none => .bad) := rfl
@[simp] theorem x_mPopAt (i : Nat) (m : EM) (en : En) : mPopAt i m en = (match atL i en with
  | some _ => match m en with
    | .ok (.int j) en2 => match atL i en2 with
      | some ds => match ixN ds.length j with
        | some n => match ds[n]? with
          | some d => if ds.length ≤ lim then .ok d (en2.set i (some (.lst (ds.eraseIdx n)))) else .bad
          | none => .bad
        | none => .bad
      | none => .bad
    | .ok _ _ => .bad
    | .exc c x => .exc c x
    | .bad => .bad
  | none => .bad) := rfl
@[simp] theorem x_mKill (is : List Nat) (m : SM) (en : En) : mKill is m en = (match m en with
  | .nx en' => .nx (killE is en')
  | r => r) := rfl
@[simp] theorem x_mTry (Γ : List Nat) (i j : Nat) (m : EM) (en : En) : mTry Γ i j m en = (match m (bareE Γ en) with
  | .ok _ _ => .nx en
  | .exc c x => .nx ((en.set i none).set j (some (.exc c x)))
  | .bad => .bad) := rfl
@[simp] theorem x_mApp (ms mk : AM) (en : En) : mApp ms mk en = (match ms en with
  | .ok ds en1 => match mk en1 with
    | .ok es en2 => .ok (ds ++ es) en2
    | .exc c x => .exc c x
    | .bad => .bad
  | .exc c x => .exc c x
  | .bad => .bad) := rfl
@[simp] theorem y_lim : lim = 1000000 := (rfl)
@[simp] theorem x_runF (n : Nat) (io : List (Option Nat)) (m : SM) (ds : List D) : runF n io m ds = (match m (ds.map some ++ List.replicate (n - ds.length) none) with
  | .rt d en' => .ok d (maskE io en')
  | .nx en' => .ok .non (maskE io en')
  | .exc c x => .exc c x
  | .bad => .bad) := rfl
@[simp] theorem y_dAdd (i j : Int) : dAdd (.int i) (.int j) = some (.int (i + j)) := (rfl)
@[simp] theorem y_dSub (i j : Int) : dSub (.int i) (.int j) = some (.int (i - j)) := (rfl)
@[simp] theorem y_dLt (i j : Int) : dLt (.int i) (.int j) = some (.bl (decide (i < j))) := (rfl)
@[simp] theorem y_dLe (i j : Int) : dLe (.int i) (.int j) = some (.bl (decide (i ≤ j))) := (rfl)
@[simp] theorem y_dGt (i j : Int) : dGt (.int i) (.int j) = some (.bl (decide (j < i))) := (rfl)
@[simp] theorem y_dGe (i j : Int) : dGe (.int i) (.int j) = some (.bl (decide (j ≤ i))) := (rfl)
@[simp] theorem y_dMax (i j : Int) : dMax (.int i) (.int j) = some (.int (if j > i then j else i)) := (rfl)
@[simp] theorem y_dMin (i j : Int) : dMin (.int i) (.int j) = some (.int (if j < i then j else i)) := (rfl)
@[simp] theorem y_dAddX (i j : Int) : dAddX (.int i) (.int j) = some (.int (i + j)) := (rfl)
@[simp] theorem y_dAddS (x y : Str) : dAddX (.str x) (.str y) = (if x.length + y.length ≤ lim then some (.str (x ++ y)) else none) := (rfl)
@[simp] theorem y_dMul (i j : Int) : dMul (.int i) (.int j) = (if cMul i j then some (.int (i * j)) else none) := (rfl)
@[simp] theorem y_dMulX (i j : Int) : dMulX (.int i) (.int j) = (if cMul i j then some (.int (i * j)) else none) := by unfold dMulX; rw [y_dMul]; cases cMul i j <;> rfl
@[simp] theorem y_dMulS (x : Str) (n : Int) : dMulX (.str x) (.int n) = (if -1000000 ≤ n ∧ n ≤ 1000000 ∧ x.length ≤ 16 then some (.str (Txt.mul x n)) else none) := (rfl)
@[simp] theorem y_dDiv (i j : Int) : dDiv (.int i) (.int j) = (if cDiv i j then some (.int (i.fdiv j)) else none) := (rfl)
@[simp] theorem y_dMod (i j : Int) : dMod (.int i) (.int j) = (if cMod i j then some (.int (i.fmod j)) else none) := (rfl)
@[simp] theorem y_dPow (i j : Int) : dPow (.int i) (.int j) = (if cPow i j then some (.int (i ^ j.toNat)) else none) := (rfl)
@[simp] theorem y_cMul (i j : Int) : cMul i j = ((decide (-(2 ^ 64) < i) && decide (i < 2 ^ 64)) || (decide (-(2 ^ 64) < j) && decide (j < 2 ^ 64))) := (rfl)
@[simp] theorem y_cDiv (i j : Int) : cDiv i j = (decide (j ≠ 0) && decide (j.natAbs < 1073741824)) := (rfl)
@[simp] theorem y_cMod (i j : Int) : cMod i j = decide (j ≠ 0) := (rfl)
@[simp] theorem y_dCat (xs ys : List D) : dCat (.lst xs) (.lst ys) = (if xs.length + ys.length ≤ lim then some (.lst (xs ++ ys)) else none) := (rfl)
@[simp] theorem y_dRep (xs : List D) (n : Int) : dRep (.lst xs) (.int n) = (if -1000000 ≤ n ∧ n ≤ 1000000 ∧ xs.length * n.toNat ≤ lim then some (.lst (List.replicate n.toNat xs).flatten) else none) := (rfl)
@[simp] theorem y_dIxL (xs : List D) (i : Int) : dIx (.lst xs) (.int i) = atI xs i := (rfl)
@[simp] theorem y_dIxT (xs : List D) (i : Int) : dIx (.tup xs) (.int i) = atI xs i := (rfl)
@[simp] theorem y_dIxS (xs : List Int) (i : Int) : dIx (.scr xs) (.int i) = (atI xs i).map .int := (rfl)
theorem atI_nat {α : Type} (xs : List α) (n : Nat) : atI xs (n : Int) = xs[n]? := by
  unfold atI ixN
  by_cases h : n < xs.length
  · simp [h]
  · simp [h]
@[simp] theorem atI_zero {α : Type} (xs : List α) : atI xs 0 = xs[0]? := atI_nat xs 0
@[simp] theorem atI_one {α : Type} (xs : List α) : atI xs 1 = xs[1]? := atI_nat xs 1
@[simp] theorem atI_lit {α : Type} (xs : List α) (n : Nat) : atI xs (no_index (@OfNat.ofNat Int n instOfNat)) = xs[(@OfNat.ofNat Nat n (instOfNatNat n))]? := atI_nat xs n
@[simp] theorem atI_z {α : Type} (xs : List α) (n : Nat) : atI xs (0 + (n : Int)) = xs[n]? := by rw [Int.zero_add]; exact atI_nat xs n
@[simp] theorem atI_c {α : Type} (xs : List α) (n : Nat) : atI xs (n : Int) = xs[n]? := atI_nat xs n
@[simp] theorem y_scD_non  : scD .non = true := (rfl)
@[simp] theorem y_scD_bl (b : Bool) : scD (.bl b) = true := (rfl)
@[simp] theorem y_scD_int (i : Int) : scD (.int i) = true := (rfl)
@[simp] theorem y_scD_str (x : Str) : scD (.str x) = true := (rfl)
@[simp] theorem y_scD_tup (xs : List D) : scD (.tup xs) = false := (rfl)
@[simp] theorem y_scD_lst (xs : List D) : scD (.lst xs) = false := (rfl)
@[simp] theorem y_dItL (xs : List D) : dItems (.lst xs) = some xs := (rfl)
@[simp] theorem y_dItT (xs : List D) : dItems (.tup xs) = some xs := (rfl)
@[simp] theorem y_dItS (x : Str) : dItems (.str x) = some (chars x) := (rfl)
@[simp] theorem y_dItC (xs : List Int) : dItems (.scr xs) = some (xs.map .int) := (rfl)
@[simp] theorem y_dLst (xs : List D) : dLst (.lst xs) = some (enumD xs) := (rfl)
@[simp] theorem y_dStrE (x : Str) : dStrE (.str x) = some (enumD (chars x)) := (rfl)
@[simp] theorem y_dIntI (i : Int) : dInt (.int i) = some (.int i) := (rfl)
@[simp] theorem y_dIntB (b : Bool) : dInt (.bl b) = some (.int (if b then 1 else 0)) := (rfl)
@[simp] theorem y_dLenL (xs : List D) : dLen (.lst xs) = some (.int xs.length) := (rfl)
@[simp] theorem y_dLenT (xs : List D) : dLen (.tup xs) = some (.int xs.length) := (rfl)
@[simp] theorem y_dLenC (xs : List Int) : dLen (.scr xs) = some (.int xs.length) := (rfl)
@[simp] theorem y_dLenS (x : Str) : dLen (.str x) = (if x.length ≤ lim then some (.int x.length) else none) := (rfl)
@[simp] theorem y_dBits (i : Int) : dBits (.int i) = some (.int (Builtin.Int.intBits i : Nat)) := (rfl)
@[simp] theorem y_permN {α : Type} (xs : List α) : permL [] xs = [] := (rfl)
@[simp] theorem y_permC {α : Type} (i : Nat) (p : List Nat) (xs : List α) : permL (i :: p) xs = (match xs[i]? with | some x => x :: permL p xs | none => permL p xs) := by unfold permL; rw [List.filterMap_cons]; cases xs[i]? <;> rfl
@[simp] theorem y_maskN (io : List (Option Nat)) : maskE io [] = [] := (rfl)
@[simp] theorem y_maskC (io : List (Option Nat)) (d : Option D) (en : En) : maskE io (d :: en) = (if (io.getD 0 none).isSome then d else none) :: maskE io.tail en := by
  unfold maskE
  rw [List.mapIdx_cons]
  cases io with
  | nil => simp
  | cons o io => simp
@[simp] theorem y_bareN (io : List Nat) : bareE io [] = [] := (rfl)
@[simp] theorem y_bareC (io : List Nat) (d : Option D) (en : En) : bareE io (d :: en) = (if io.getD 0 0 = 0 then d else none) :: bareE io.tail en := by
  unfold bareE
  rw [List.mapIdx_cons]
  cases io with
  | nil => simp
  | cons o io => simp
@[simp] theorem y_killN (en : En) : killE [] en = en := (rfl)
@[simp] theorem y_killC (i : Nat) (is : List Nat) (en : En) : killE (i :: is) en = killE is (en.set i none) := (rfl)
@[simp] theorem y_rngOk (i : Int) : rngOk i = decide (-1000000 ≤ i ∧ i ≤ 1000000) := (rfl)
@[simp] theorem y_isI_int_non  : dIsI "int" .non = some (.bl false) := (rfl)
@[simp] theorem y_isI_int_bl (b : Bool) : dIsI "int" (.bl b) = some (.bl true) := (rfl)
@[simp] theorem y_isI_int_int (i : Int) : dIsI "int" (.int i) = some (.bl true) := (rfl)
@[simp] theorem y_isI_int_str (x : Str) : dIsI "int" (.str x) = some (.bl false) := (rfl)
@[simp] theorem y_isI_int_tup (xs : List D) : dIsI "int" (.tup xs) = some (.bl false) := (rfl)
@[simp] theorem y_isI_int_lst (xs : List D) : dIsI "int" (.lst xs) = some (.bl false) := (rfl)
@[simp] theorem y_isI_int_ed  : dIsI "int" .edict = some (.bl false) := (rfl)
@[simp] theorem y_isI_bool_non  : dIsI "bool" .non = some (.bl false) := (rfl)
@[simp] theorem y_isI_bool_bl (b : Bool) : dIsI "bool" (.bl b) = some (.bl true) := (rfl)
@[simp] theorem y_isI_bool_int (i : Int) : dIsI "bool" (.int i) = some (.bl false) := (rfl)
@[simp] theorem y_isI_bool_str (x : Str) : dIsI "bool" (.str x) = some (.bl false) := (rfl)
@[simp] theorem y_isI_bool_tup (xs : List D) : dIsI "bool" (.tup xs) = some (.bl false) := (rfl)
@[simp] theorem y_isI_bool_lst (xs : List D) : dIsI "bool" (.lst xs) = some (.bl false) := (rfl)
@[simp] theorem y_isI_bool_ed  : dIsI "bool" .edict = some (.bl false) := (rfl)
@[simp] theorem y_isI_str_non  : dIsI "str" .non = some (.bl false) := (rfl)
@[simp] theorem y_isI_str_bl (b : Bool) : dIsI "str" (.bl b) = some (.bl false) := (rfl)
@[simp] theorem y_isI_str_int (i : Int) : dIsI "str" (.int i) = some (.bl false) := (rfl)
@[simp] theorem y_isI_str_str (x : Str) : dIsI "str" (.str x) = some (.bl true) := (rfl)
@[simp] theorem y_isI_str_tup (xs : List D) : dIsI "str" (.tup xs) = some (.bl false) := (rfl)
@[simp] theorem y_isI_str_lst (xs : List D) : dIsI "str" (.lst xs) = some (.bl false) := (rfl)
@[simp] theorem y_isI_str_ed  : dIsI "str" .edict = some (.bl false) := (rfl)
@[simp] theorem y_isI_list_non  : dIsI "list" .non = some (.bl false) := (rfl)
@[simp] theorem y_isI_list_bl (b : Bool) : dIsI "list" (.bl b) = some (.bl false) := (rfl)
@[simp] theorem y_isI_list_int (i : Int) : dIsI "list" (.int i) = some (.bl false) := (rfl)
@[simp] theorem y_isI_list_str (x : Str) : dIsI "list" (.str x) = some (.bl false) := (rfl)
@[simp] theorem y_isI_list_tup (xs : List D) : dIsI "list" (.tup xs) = some (.bl false) := (rfl)
@[simp] theorem y_isI_list_lst (xs : List D) : dIsI "list" (.lst xs) = some (.bl true) := (rfl)
@[simp] theorem y_isI_list_ed  : dIsI "list" .edict = some (.bl false) := (rfl)
@[simp] theorem y_isI_tuple_non  : dIsI "tuple" .non = some (.bl false) := (rfl)
@[simp] theorem y_isI_tuple_bl (b : Bool) : dIsI "tuple" (.bl b) = some (.bl false) := (rfl)
@[simp] theorem y_isI_tuple_int (i : Int) : dIsI "tuple" (.int i) = some (.bl false) := (rfl)
@[simp] theorem y_isI_tuple_str (x : Str) : dIsI "tuple" (.str x) = some (.bl false) := (rfl)
@[simp] theorem y_isI_tuple_tup (xs : List D) : dIsI "tuple" (.tup xs) = some (.bl true) := (rfl)
@[simp] theorem y_isI_tuple_lst (xs : List D) : dIsI "tuple" (.lst xs) = some (.bl false) := (rfl)
@[simp] theorem y_isI_tuple_ed  : dIsI "tuple" .edict = some (.bl false) := (rfl)
@[simp] theorem y_isI2_non  : dIsI2 "list" "tuple" .non = some (.bl false) := (rfl)
@[simp] theorem y_isI2_bl (b : Bool) : dIsI2 "list" "tuple" (.bl b) = some (.bl false) := (rfl)
@[simp] theorem y_isI2_int (i : Int) : dIsI2 "list" "tuple" (.int i) = some (.bl false) := (rfl)
@[simp] theorem y_isI2_str (x : Str) : dIsI2 "list" "tuple" (.str x) = some (.bl false) := (rfl)
@[simp] theorem y_isI2_tup (xs : List D) : dIsI2 "list" "tuple" (.tup xs) = some (.bl true) := (rfl)
@[simp] theorem y_isI2_lst (xs : List D) : dIsI2 "list" "tuple" (.lst xs) = some (.bl true) := (rfl)
@[simp] theorem y_isI2_ed  : dIsI2 "list" "tuple" .edict = some (.bl false) := (rfl)
@[simp] theorem y_isN_non  : dIsN .non .non = some (.bl true) := (rfl)
@[simp] theorem y_ntN_non  : dNotN .non .non = some (.bl false) := (rfl)
@[simp] theorem y_isN_bl (b : Bool) : dIsN (.bl b) .non = some (.bl false) := (rfl)
@[simp] theorem y_ntN_bl (b : Bool) : dNotN (.bl b) .non = some (.bl true) := (rfl)
@[simp] theorem y_isN_int (i : Int) : dIsN (.int i) .non = some (.bl false) := (rfl)
@[simp] theorem y_ntN_int (i : Int) : dNotN (.int i) .non = some (.bl true) := (rfl)
@[simp] theorem y_isN_str (x : Str) : dIsN (.str x) .non = some (.bl false) := (rfl)
@[simp] theorem y_ntN_str (x : Str) : dNotN (.str x) .non = some (.bl true) := (rfl)
@[simp] theorem y_isN_tup (xs : List D) : dIsN (.tup xs) .non = some (.bl false) := (rfl)
@[simp] theorem y_ntN_tup (xs : List D) : dNotN (.tup xs) .non = some (.bl true) := (rfl)
@[simp] theorem y_isN_lst (xs : List D) : dIsN (.lst xs) .non = some (.bl false) := (rfl)
@[simp] theorem y_ntN_lst (xs : List D) : dNotN (.lst xs) .non = some (.bl true) := (rfl)
@[simp] theorem y_isN_ed  : dIsN .edict .non = some (.bl false) := (rfl)
@[simp] theorem y_ntN_ed  : dNotN .edict .non = some (.bl true) := (rfl)
@[simp] theorem y_isN_exc (c : Str) (v : D) : dIsN (.exc c v) .non = some (.bl false) := (rfl)
@[simp] theorem y_ntN_exc (c : Str) (v : D) : dNotN (.exc c v) .non = some (.bl true) := (rfl)
@[simp] theorem y_isN_scr (ns : List Int) : dIsN (.scr ns) .non = some (.bl false) := (rfl)
@[simp] theorem y_ntN_scr (ns : List Int) : dNotN (.scr ns) .non = some (.bl true) := (rfl)
@[simp] theorem y_dVal (c : Str) (v : D) : dVal (.exc c v) = some v := (rfl)
@[simp] theorem y_dIsX (n c : Str) (v : D) : dIsX n (.exc c v) = some (.bl (c == n)) := (rfl)
@[simp] theorem y_dIsXn (n : Str) : dIsX n .non = some (.bl false) := (rfl)
@[simp] theorem y_dList (xs : List D) : dList (.lst xs) = some (.lst xs) := (rfl)
@[simp] theorem y_dListT (xs : List D) : dList (.tup xs) = some (.lst xs) := (rfl)
@[simp] theorem y_dListC (x : Str) : dListC (.str x) = (if x.length ≤ lim then some (.lst (chars x)) else none) := (rfl)
@[simp] theorem y_dRev (xs : List D) : dRev (.lst xs) = some (.lst xs.reverse) := (rfl)
@[simp] theorem y_slL (xs : List D) (lo hi : Option Int) : dSlice (.lst xs) lo hi = some (.lst (cutL xs lo hi)) := (rfl)
@[simp] theorem y_slS (x : Str) (lo hi : Option Int) : dSlice (.str x) lo hi = (if x.length ≤ lim then some (.str (cutS x lo hi)) else none) := (rfl)
@[simp] theorem y_slC (xs : List Int) (lo hi : Option Int) : dSlice (.scr xs) lo hi = some (.lst ((cutL xs lo hi).map .int)) := (rfl)
@[simp] theorem y_dCount (x y : Str) : dCount (.str x) (.str y) = some (.int (Txt.count x y)) := (rfl)
@[simp] theorem y_atL (i : Nat) (en : En) : atL i en = (match en[i]? with | some (some (.lst ds)) => some ds | _ => none) := (rfl)
@[simp] theorem y_ixN (n : Nat) (i : Int) : ixN n i = (if 0 ≤ i then (if i < n then some i.toNat else none) else if -(n : Int) ≤ i then some (i + n).toNat else none) := (rfl)
end Im
/-! Words for the plain laws: loops in general; data that can be shown. -/
namespace Im
open PySem PySem.Spec PyProof.Rows L2
/-! ### loops in general -/
@[simp] def lStep (g : D → En → Option En) (mb : SM) (d : D) (en : En) : SRes := match g d en with
  | some en1 => mb en1
  | none => .bad
theorem loop_cons (g : D → En → Option En) (mb : SM) (d : D) (ds : List D) (en : En) : loopM g mb (d :: ds) en = (match lStep g mb d en with
  | .nx en' => loopM g mb ds en'
  | r => r) := by
  unfold lStep
  rw [loopM]
  dsimp only
  cases g d en <;> rfl
@[simp] theorem loop_nil (g : D → En → Option En) (mb : SM) (en : En) : loopM g mb [] en = .nx en := by rw [loopM]
def SNx (P : En → Prop) : SRes → Prop
  | .nx en => P en
  | _ => False
@[simp] theorem snx_nx (P : En → Prop) (en : En) : SNx P (.nx en) = P en := rfl
theorem SNx.of {P : En → Prop} {r : SRes} (h : SNx P r) : ∃ en, r = .nx en ∧ P en := by
  cases r <;> first | exact ⟨_, rfl, h⟩ | exact h.elim
theorem loop_inv {g : D → En → Option En} {mb : SM} (I : Nat → En → Prop) : ∀ (ds : List D) (n : Nat) (en : En), (∀ i d en, ds[i]? = some d → I (n + i) en → SNx (I (n + i + 1)) (lStep g mb d en)) → I n en → ∃ en', loopM g mb ds en = .nx en' ∧ I (n + ds.length) en'
  | [], n, en, h, h0 => ⟨en, loop_nil _ _ _, h0⟩
  | d :: ds, n, en, h, h0 => by
    obtain ⟨e2, q, i2⟩ := (h 0 d en rfl h0).of
    obtain ⟨e3, q3, i3⟩ := loop_inv I ds (n + 1) e2 (fun i d' en' hd hi => by
      have := h (i + 1) d' en' (by simpa using hd) (by rw [show n + (i + 1) = n + 1 + i by omega]; exact hi)
      rw [show n + (i + 1) + 1 = n + 1 + i + 1 by omega] at this
      exact this) i2
    refine ⟨e3, ?_, by rw [List.length_cons, show n + (ds.length + 1) = n + 1 + ds.length by omega]; exact i3⟩
    rw [loop_cons, q]
    exact q3
theorem rng_get {n i : Nat} {d : D} (h : (rngD 0 n)[i]? = some d) : d = .int (i : Nat) ∧ i < n := by
  unfold rngD at h
  rw [List.getElem?_map] at h
  by_cases hi : i < n
  · rw [List.getElem?_range hi] at h
    simp at h
    exact ⟨h.symm, hi⟩
  · rw [List.getElem?_eq_none (by simpa using hi)] at h
    cases h
@[simp] theorem rng_len (n : Nat) : (rngD 0 n).length = n := by simp [rngD]
/-- a walk over range(n) -/
theorem loop_rng {g : D → En → Option En} {mb : SM} (I : Nat → En → Prop) (n : Nat) (en : En) (h : ∀ i en, i < n → I i en → SNx (I (i + 1)) (lStep g mb (.int (i : Nat)) en)) (h0 : I 0 en) : ∃ en', loopM g mb (rngD 0 n) en = .nx en' ∧ I n en' := by
  obtain ⟨en', e, i⟩ := loop_inv (g := g) (mb := mb) I (rngD 0 n) 0 en (fun i d en hd hi => by
    obtain ⟨rfl, hl⟩ := rng_get hd
    rw [Nat.zero_add] at hi ⊢
    exact h i en hl hi) h0
  rw [rng_len, Nat.zero_add] at i
  exact ⟨en', e, i⟩
@[simp] def cStep (g : D → En → Option En) (mt me : EM) (vs : List Nat) (d : D) (en : En) : Option (Option D × En) := match g d en with
  | some en1 => match mt en1 with
    | .ok (.bl true) en2 => match me en2 with
      | .ok y en3 => some (some y, killE vs en3)
      | _ => none
    | .ok (.bl false) en2 => some (none, killE vs en2)
    | _ => none
  | none => none
@[simp] theorem comp_nil (g : D → En → Option En) (mt me : EM) (vs : List Nat) (acc : List D) (en : En) : compM g mt me vs [] acc en = .ok (.lst acc) en := by rw [compM]
theorem comp_cons (g : D → En → Option En) (mt me : EM) (vs : List Nat) (d : D) (ds acc : List D) (en : En) : compM g mt me vs (d :: ds) acc en = (match cStep g mt me vs d en with
  | some (some y, en') => if acc.length < lim then compM g mt me vs ds (acc ++ [y]) en' else .bad
  | some (none, en') => compM g mt me vs ds acc en'
  | none => .bad) := by
  unfold cStep
  rw [compM]
  cases g d en with
  | none => rfl
  | some e1 =>
    dsimp only
    cases mt e1 with
    | bad => rfl
    | exc c x => rfl
    | ok t e2 =>
      cases t with
      | bl b =>
        cases b with
        | false => rfl
        | true =>
          dsimp only
          cases me e2 <;> rfl
      | _ => rfl
theorem comp_fm {α : Type} {g : D → En → Option En} {mt me : EM} {vs : List Nat} {en : En} (enc : α → D) (f : α → Option D) : ∀ (xs : List α) (acc : List D), acc.length + xs.length ≤ lim → (∀ x ∈ xs, cStep g mt me vs (enc x) en = some (f x, en)) → compM g mt me vs (xs.map enc) acc en = .ok (.lst (acc ++ xs.filterMap f)) en
  | [], acc, _, _ => by simp [compM]
  | x :: xs, acc, hl, h => by
    simp only [List.length_cons] at hl
    rw [List.map_cons, comp_cons, h x List.mem_cons_self, List.filterMap_cons]
    cases e : f x with
    | none =>
      dsimp only
      exact comp_fm enc f xs acc (by omega) fun y hy => h y (List.mem_cons_of_mem _ hy)
    | some y =>
      dsimp only
      rw [if_pos (by omega), comp_fm enc f xs (acc ++ [y]) (by simp [-y_lim]; omega) fun y hy => h y (List.mem_cons_of_mem _ hy)]
      simp
theorem comp_map {α : Type} {g : D → En → Option En} {mt me : EM} {vs : List Nat} {en : En} (enc : α → D) (f : α → D) (xs : List α) (hl : xs.length ≤ lim) (h : ∀ x ∈ xs, cStep g mt me vs (enc x) en = some (some (f x), en)) : compM g mt me vs (xs.map enc) [] en = .ok (.lst (xs.map f)) en := by
  rw [comp_fm enc (fun x => some (f x)) xs [] (by simpa using hl) h]
  congr 2
  induction xs with
  | nil => rfl
  | cons x xs ih => simp [List.filterMap_cons]
theorem comp_flt {α : Type} {g : D → En → Option En} {mt me : EM} {vs : List Nat} {en : En} (enc : α → D) (p : α → Bool) (f : α → D) (xs : List α) (hl : xs.length ≤ lim) (h : ∀ x ∈ xs, cStep g mt me vs (enc x) en = some (if p x then some (f x) else none, en)) : compM g mt me vs (xs.map enc) [] en = .ok (.lst ((xs.filter p).map f)) en := by
  rw [comp_fm enc (fun x => if p x then some (f x) else none) xs [] (by simpa using hl) h]
  congr 2
  rw [List.nil_append]
  clear h hl
  induction xs with
  | nil => rfl
  | cons x xs ih =>
    rw [List.filterMap_cons, List.filter_cons]
    cases p x <;> simp [ih]
/-- with a state -/
def CNx (P : D → En → Prop) : Option (Option D × En) → Prop
  | some (some y, en) => P y en
  | _ => False
@[simp] theorem cnx_nx (P : D → En → Prop) (y : D) (en : En) : CNx P (some (some y, en)) = P y en := rfl
theorem CNx.of {P : D → En → Prop} {r : Option (Option D × En)} (h : CNx P r) : ∃ y en, r = some (some y, en) ∧ P y en := by
  match r, h with
  | some (some y, en), h => exact ⟨_, _, rfl, h⟩
theorem comp_inv {g : D → En → Option En} {mt me : EM} {vs : List Nat} (I : List D → En → Prop) : ∀ (ds acc : List D) (en : En), acc.length + ds.length ≤ lim → (∀ i d acc' en, ds[i]? = some d → acc'.length = acc.length + i → I acc' en → CNx (fun y en2 => I (acc' ++ [y]) en2) (cStep g mt me vs d en)) → I acc en → ∃ ys en', compM g mt me vs ds acc en = .ok (.lst (acc ++ ys)) en' ∧ ys.length = ds.length ∧ I (acc ++ ys) en'
  | [], acc, en, _, _, h0 => ⟨[], en, by simp [compM], rfl, by simpa using h0⟩
  | d :: ds, acc, en, hl, h, h0 => by
    simp only [List.length_cons] at hl
    obtain ⟨y, e2, q, i2⟩ := (h 0 d acc en rfl rfl h0).of
    obtain ⟨ys, e3, q3, l3, i3⟩ := comp_inv I ds (acc ++ [y]) e2 (by simp [-y_lim]; omega) (fun i d' acc' en' hd ha => h (i + 1) d' acc' en' (by simpa using hd) (by rw [ha]; simp; omega)) i2
    refine ⟨y :: ys, e3, ?_, by simp [l3], by simpa using i3⟩
    rw [comp_cons, q]
    dsimp only
    rw [if_pos (by omega), q3]
    simp
/-- a list made over range(n), with a state -/
theorem comp_rng {g : D → En → Option En} {mt me : EM} {vs : List Nat} (I : List D → En → Prop) (n : Nat) (en : En) (hn : n ≤ 1000000) (h : ∀ i acc en, i < n → acc.length = i → I acc en → CNx (fun y en2 => I (acc ++ [y]) en2) (cStep g mt me vs (.int (i : Nat)) en)) (h0 : I [] en) : ∃ ys en', compM g mt me vs (rngD 0 n) [] en = .ok (.lst ys) en' ∧ ys.length = n ∧ I ys en' := by
  obtain ⟨ys, en', q, l, i⟩ := comp_inv (g := g) (mt := mt) (me := me) (vs := vs) I (rngD 0 n) [] en (by simpa using hn) (fun i d acc en hd ha hi => by
    obtain ⟨rfl, hl⟩ := rng_get hd
    exact h i acc en hl (by simpa using ha) hi) h0
  exact ⟨ys, en', by simpa using q, by simpa using l, by simpa using i⟩
/-! ### data that can be shown -/
theorem reprChar_lt (q c : Nat) (hc : c < 0x110000) : ∀ e ∈ Builtin.Str.reprChar q c, e < 0x110000 := by
  intro e he
  have hx : ∀ w : Nat, ∀ e ∈ (List.replicate (w - ((Nat.toDigits 16 c).map Char.toNat).length) 48 ++ (Nat.toDigits 16 c).map Char.toNat), e < 0x110000 := by
    intro w e he
    rcases List.mem_append.mp he with he | he
    · have := List.eq_of_mem_replicate he; omega
    · obtain ⟨ch, _, rfl⟩ := List.mem_map.mp he
      have := ch.valid
      have h2 : ch.toNat = ch.val.toNat := rfl
      unfold UInt32.isValidChar Nat.isValidChar at this
      omega
  have two : ∀ (a b : Nat) (l : List Nat), a < 0x110000 → b < 0x110000 → (∀ e ∈ l, e < 0x110000) → ∀ e ∈ [a, b] ++ l, e < 0x110000 := by
    intro a b l ha hb hl e he
    simp only [List.cons_append, List.nil_append, List.mem_cons] at he
    rcases he with rfl | rfl | he
    · exact ha
    · exact hb
    · exact hl e he
  unfold Builtin.Str.reprChar at he
  dsimp only at he
  split at he
  · exact two 92 c [] (by omega) hc (by simp) e (by simpa using he)
  · split at he
    · exact two 92 110 [] (by omega) (by omega) (by simp) e (by simpa using he)
    · split at he
      · exact two 92 114 [] (by omega) (by omega) (by simp) e (by simpa using he)
      · split at he
        · exact two 92 116 [] (by omega) (by omega) (by simp) e (by simpa using he)
        · split at he
          · simp at he; omega
          · split at he
            · exact two 92 120 _ (by omega) (by omega) (hx 2) e he
            · split at he
              · exact two 92 117 _ (by omega) (by omega) (hx 4) e he
              · exact two 92 85 _ (by omega) (by omega) (hx 8) e he
def sOk (x : Str) : Prop := ∀ c ∈ x.cps.toList, c < 0x110000
theorem sOk_iff (x : Str) : PyData.strOk x = true ↔ sOk x := by
  unfold PyData.strOk sOk
  rw [Array.all_eq_true_iff_forall_mem]
  simp
theorem sOk_app {x y : Str} (hx : sOk x) (hy : sOk y) : sOk (x ++ y) := by
  intro c hc
  have e : (x ++ y).cps = x.cps ++ y.cps := rfl
  rw [e] at hc
  simp only [Array.toList_append, List.mem_append] at hc
  exact hc.elim (hx c) (hy c)
theorem sOk_reprText (x : Str) (h : sOk x) : sOk (reprText x) := by
  intro c hc
  unfold reprText at hc
  have hq : reprQuote x < 0x110000 := by
    unfold reprQuote
    split <;> omega
  simp only [Array.toList_push, List.mem_append, List.mem_singleton] at hc
  rcases hc with hc | rfl
  · have key : ∀ (l : List Nat) (acc : Array Nat), (∀ c ∈ l, c < 0x110000) → (∀ c ∈ acc.toList, c < 0x110000) → ∀ c ∈ (l.foldl (fun out c => out ++ (Builtin.Str.reprChar (reprQuote x) c).toArray) acc).toList, c < 0x110000 := by
      intro l
      induction l with
      | nil => intro acc _ ha; exact ha
      | cons d l ih =>
        intro acc hl ha
        refine ih _ (fun c hc => hl c (List.mem_cons_of_mem _ hc)) fun c hc => ?_
        simp only [Array.toList_append, List.mem_append] at hc
        rcases hc with hc | hc
        · exact ha c hc
        · exact reprChar_lt _ _ (hl d List.mem_cons_self) c hc
    rw [← Array.foldl_toList] at hc
    exact key x.cps.toList _ h (by simpa using hq) c hc
  · exact hq
theorem sOk_ofString (s : String) : sOk (Str.ofString s) := by
  intro c hc
  rw [Str.ofString_eq_toList] at hc
  simp at hc
  obtain ⟨ch, _, rfl⟩ := hc
  have := ch.valid
  have h2 : ch.toNat = ch.val.toNat := rfl
  unfold UInt32.isValidChar Nat.isValidChar at this
  omega
theorem sOk_textFrom : ∀ (ts : List Str) (k : Nat) (acc : Str), sOk acc → (∀ t ∈ ts, sOk t) → sOk (textFrom k acc ts)
  | [], k, acc, ha, _ => ha
  | t :: ts, k, acc, ha, h => by
    refine sOk_textFrom ts (k + 1) _ (sOk_app (sOk_app ha ?_) (h t List.mem_cons_self)) fun t ht => h t (List.mem_cons_of_mem _ ht)
    split <;> exact sOk_ofString _
theorem sOk_join : ∀ (ts : List Str), (∀ t ∈ ts, sOk t) → sOk (Str.join ", " ts)
  | [], _ => by intro c hc; exact absurd hc (by rw [show Str.join ", " [] = ⟨#[]⟩ from rfl]; simp)
  | [x], h => h x List.mem_cons_self
  | x :: y :: r, h => sOk_app (sOk_app (h x List.mem_cons_self) (sOk_ofString _)) (sOk_join (y :: r) fun t ht => h t (List.mem_cons_of_mem _ ht))
mutual
theorem sOk_shown : ∀ p : PyData, p.canLay0 = true → sOk p.shown
  | .none, _ => sOk_ofString _
  | .bool b, _ => by cases b <;> exact sOk_ofString _
  | .int i, _ => sOk_ofString _
  | .str x, h => sOk_reprText x ((sOk_iff x).mp (by simpa [PyData.canLay0] using h))
  | .list xs, h => by
    simp only [PyData.shown, listText]
    exact sOk_app (sOk_textFrom _ _ _ (sOk_ofString _) (sOk_shownAll xs (by simpa [PyData.canLay0] using h))) (sOk_ofString _)
  | .tuple xs, h => by
    simp only [PyData.shown, tupleText]
    refine sOk_app (sOk_app (sOk_ofString _) (sOk_join _ (sOk_shownAll xs (by simpa [PyData.canLay0] using h)))) ?_
    split <;> exact sOk_ofString _
  | .dict kvs, h => by simp [PyData.canLay0] at h
theorem sOk_shownAll : ∀ xs : List PyData, PyData.canLayAll0 xs = true → ∀ t ∈ PyData.shownAll xs, sOk t
  | [], _, t, ht => by simp [PyData.shownAll] at ht
  | x :: xs, h, t, ht => by
    have h' : x.canLay0 = true ∧ PyData.canLayAll0 xs = true := by simpa [PyData.canLayAll0] using h
    simp only [PyData.shownAll, List.mem_cons] at ht
    rcases ht with rfl | ht
    · exact sOk_shown x h'.1
    · exact sOk_shownAll xs h'.2 t ht
end
mutual
theorem eqv_self : ∀ p : PyData, p.canLay0 = true → PyData.eqv p p = true
  | .none, _ => rfl
  | .bool b, _ => by cases b <;> rfl
  | .int i, _ => by simp [PyData.eqv]
  | .str x, _ => by simp [PyData.eqv]
  | .list xs, h => by
    rw [PyData.eqv]; exact eqvAll_self xs (by simpa [PyData.canLay0] using h)
  | .tuple xs, h => by
    rw [PyData.eqv]; exact eqvAll_self xs (by simpa [PyData.canLay0] using h)
  | .dict kvs, h => by simp [PyData.canLay0] at h
theorem eqvAll_self : ∀ xs : List PyData, PyData.canLayAll0 xs = true → PyData.eqvAll xs xs = true
  | [], _ => rfl
  | x :: xs, h => by
    have h' : x.canLay0 = true ∧ PyData.canLayAll0 xs = true := by simpa [PyData.canLayAll0] using h
    rw [PyData.eqvAll, eqv_self x h'.1, eqvAll_self xs h'.2]; rfl
end
/-- data of depth at most n, weight at most w, numbers of few figures -/
structure NzP (n w : Nat) (p : PyData) : Prop where
  lay : p.canLay0 = true
  shw : p.showable = true
  lea : p.leavesShort 13 = true
  dep : p.depth ≤ n
  wei : p.weight ≤ w
def Nz (n w : Nat) (d : D) : Prop := ∃ p, toP d = some p ∧ NzP n w p
structure NzPL (n w : Nat) (ps : List PyData) : Prop where
  lay : PyData.canLayAll0 ps = true
  shw : PyData.showableAll ps = true
  lea : PyData.leavesShortAll 13 ps = true
  dep : PyData.depthAll ps ≤ n
  wei : PyData.weightAll ps ≤ w
def NzL (n w : Nat) (ds : List D) : Prop := ∃ ps, toPL ds = some ps ∧ NzPL n w ps
theorem Nz.mono {n w n' w' : Nat} {d : D} (h : Nz n w d) (hn : n ≤ n') (hw : w ≤ w') : Nz n' w' d := by
  obtain ⟨p, e, a, b, c, u, v⟩ := h
  exact ⟨p, e, a, b, c, by omega, by omega⟩
theorem NzL.mono {n w n' w' : Nat} {d : List D} (h : NzL n w d) (hn : n ≤ n') (hw : w ≤ w') : NzL n' w' d := by
  obtain ⟨p, e, a, b, c, u, v⟩ := h
  exact ⟨p, e, a, b, c, by omega, by omega⟩
theorem nz_non : Nz 0 0 .non := ⟨_, rfl, rfl, rfl, rfl, by decide, by decide⟩
theorem nz_bl (b : Bool) : Nz 0 0 (.bl b) := ⟨_, rfl, rfl, rfl, rfl, by simp [PyData.depth], by simp [PyData.weight]⟩
theorem nz_int (i : Int) (h : i.natAbs < 10 ^ 12 := by omega) : Nz 0 40 (.int i) := by
  have l : i.natAbs.log2 < 40 := by
    by_cases hz : i.natAbs = 0
    · rw [hz]; decide
    · exact (Nat.log2_lt hz).mpr (by omega)
  refine ⟨_, rfl, rfl, ?_, ?_, by simp [PyData.depth], ?_⟩
  · simp only [PyData.showable, decide_eq_true_eq]; omega
  · have := PyData.shown_int_le h
    simp only [PyData.leavesShort, decide_eq_true_eq]
    exact this
  · simp only [PyData.weight]
    split <;> omega
theorem nz_str (x : Str) (h : PyData.strOk x = true) : Nz 0 x.length (.str x) := by
  refine ⟨_, rfl, by simpa [PyData.canLay0] using h, rfl, ?_, by simp [PyData.depth], by simp [PyData.weight, Str.length]⟩
  have h := (sOk_iff x).mp h
  simp only [PyData.leavesShort, List.all_eq_true, decide_eq_true_eq]
  intro c hc
  have := h c hc
  have e : (16 : Nat) ^ 8 = 4294967296 := by decide
  omega
theorem nzl_nil : NzL 0 0 [] := ⟨_, rfl, rfl, rfl, rfl, by decide, by decide⟩
theorem nzl_cons {n w n' w' : Nat} {d : D} {ds : List D} (h : Nz n w d) (h' : NzL n' w' ds) : NzL (max n n') (w + 1 + w') (d :: ds) := by
  obtain ⟨p, e, a, b, c, u, v⟩ := h
  obtain ⟨ps, es, a', b', c', u', v'⟩ := h'
  refine ⟨p :: ps, by simp [toPL, e, es], ?_, ?_, ?_, ?_, ?_⟩
  · simp [PyData.canLayAll0, a, a']
  · simp [PyData.showableAll, b, b']
  · simp [PyData.leavesShortAll, c, c']
  · simp only [PyData.depthAll]; omega
  · simp only [PyData.weightAll]; omega
theorem nz_lst {n w : Nat} {ds : List D} (h : NzL n w ds) : Nz (n + 1) w (.lst ds) := by
  obtain ⟨ps, es, a', b', c', u', v'⟩ := h
  exact ⟨_, by rw [toP, es]; rfl, by simpa [PyData.canLay0] using a', by simpa [PyData.showable] using b', by simpa [PyData.leavesShort] using c', by simp only [PyData.depth]; omega, by simpa only [PyData.weight] using v'⟩
theorem nz_tup {n w : Nat} {ds : List D} (h : NzL n w ds) : Nz (n + 1) w (.tup ds) := by
  obtain ⟨ps, es, a', b', c', u', v'⟩ := h
  exact ⟨_, by rw [toP, es]; rfl, by simpa [PyData.canLay0] using a', by simpa [PyData.showable] using b', by simpa [PyData.leavesShort] using c', by simp only [PyData.depth]; omega, by simpa only [PyData.weight] using v'⟩
theorem nzl_all {n w : Nat} : ∀ {ds : List D}, (∀ d ∈ ds, Nz n w d) → NzL n (ds.length * (w + 1)) ds
  | [], _ => nzl_nil.mono (by omega) (by omega)
  | d :: ds, h => (nzl_cons (h d List.mem_cons_self) (nzl_all fun d hd => h d (List.mem_cons_of_mem _ hd))).mono (by omega) (by rw [List.length_cons, Nat.add_mul]; omega)
theorem shaped_of {n w : Nat} {p : PyData} (h : NzP n w p) (hn : n ≤ 60) : SeqAt.shaped p = true := by
  unfold SeqAt.shaped
  rw [h.lay, Bool.true_and, decide_eq_true_eq]
  have := h.dep
  omega
/-- shown, its text in order -/
theorem repr_nz {n w : Nat} {d : D} (h : Nz n w d) (hn : n ≤ 60 := by decide) (hw : w ≤ 60000 := by decide) : ∃ s, dRepr d = some (.str s) ∧ PyData.strOk s = true ∧ s.length ≤ 15 * w + 13 := by
  obtain ⟨p, e, hp⟩ := h
  have l := PyData.shown_le 13 (by decide) p hp.lea
  have := hp.wei
  have hd := hp.dep
  have l2 : (13 + 2) * p.weight ≤ 15 * w := Nat.mul_le_mul (by omega) (by omega)
  refine ⟨p.shown, ?_, (sOk_iff _).mpr (sOk_shown p hp.lay), by omega⟩
  unfold dRepr
  rw [e]
  dsimp only
  rw [hp.shw, decide_eq_true (show p.depth ≤ 60 by omega), decide_eq_true (show p.shown.length ≤ lim by simp only [lim]; omega)]
  rfl
theorem eqD_self {n w : Nat} {d : D} (b : Bool) (h : Nz n w d) (hn : n ≤ 60 := by decide) : eqD b d d = some (.bl (!b)) := by
  obtain ⟨p, e, hp⟩ := h
  unfold eqD
  rw [e]
  dsimp only
  rw [shaped_of hp hn, eqv_self p hp.lay]
  cases b <;> rfl
theorem eqD_strs (x y : Str) (b : Bool) (hx : PyData.strOk x = true) (hy : PyData.strOk y = true) : eqD b (.str x) (.str y) = some (.bl (if b then !decide (x = y) else decide (x = y))) := by
  simp [eqD, toP, SeqAt.shaped, PyData.eqv, PyData.canLay0, PyData.depth, hx, hy]
  cases b <;> by_cases h : x = y <;> simp [h]
@[simp] theorem eqD_ints (i j : Int) (b : Bool) : eqD b (.int i) (.int j) = some (.bl (if b then !decide (i = j) else decide (i = j))) := by
  simp [eqD, toP, SeqAt.shaped, PyData.eqv, PyData.canLay0, PyData.depth]
  cases b <;> by_cases h : i = j <;> simp [h]
end Im
/-! A mark found once in a shown text. -/
namespace Im
open PySem PySem.Spec PyProof.Rows L2
theorem eqS (s : Str) (h : PyData.strOk s = true) : eqD true (.str s) (.str s) = some (.bl false) := by rw [eqD_strs _ _ _ h h]; simp
def mk6 : List Nat := [39, 109, 97, 114, 107, 39]
def Fr (l : List Nat) : Prop := 39 ∉ l
def On (l : List Nat) : Prop := ∃ a b, l = a ++ mk6 ++ b ∧ 39 ∉ a ∧ 39 ∉ b
theorem Fr.app {l m : List Nat} (h : Fr l) (h' : Fr m) : Fr (l ++ m) := fun q => (List.mem_append.mp q).elim h h'
theorem On.app {l m : List Nat} (h : On l) (h' : Fr m) : On (l ++ m) := by
  obtain ⟨a, b, rfl, ha, hb⟩ := h
  exact ⟨a, b ++ m, by simp, ha, Fr.app hb h'⟩
theorem On.pre {l m : List Nat} (h : Fr l) (h' : On m) : On (l ++ m) := by
  obtain ⟨a, b, rfl, ha, hb⟩ := h'
  exact ⟨l ++ a, b, by simp, Fr.app h ha, hb⟩
theorem mk_at {a b : List Nat} (ha : 39 ∉ a) (hb : 39 ∉ b) {k : Nat} (h : (a ++ mk6 ++ b)[k]? = some 39) : k = a.length ∨ k = a.length + 5 := by
  by_cases h1 : k < a.length
  · rw [List.append_assoc, List.getElem?_append_left h1] at h
    exact absurd (List.mem_of_getElem? h) ha
  · by_cases h2 : k < a.length + 6
    · rw [List.append_assoc, List.getElem?_append_right (by omega), List.getElem?_append_left (by simp [mk6]; omega)] at h
      have e : k - a.length = 0 ∨ k - a.length = 1 ∨ k - a.length = 2 ∨ k - a.length = 3 ∨ k - a.length = 4 ∨ k - a.length = 5 := by omega
      rcases e with e | e | e | e | e | e <;> rw [e] at h <;> simp [mk6] at h <;> omega
    · rw [List.getElem?_append_right (by simp [mk6]; omega)] at h
      exact absurd (List.mem_of_getElem? h) hb
theorem count_one (x y : Str) (hy : y.cps.toList = mk6) (h : On x.cps.toList) : Txt.count x y = 1 := by
  obtain ⟨a, b, e, ha, hb⟩ := h
  have yl : y.length = 6 := by
    have : y.cps.toList.length = 6 := by rw [hy]; rfl
    simpa [Str.length] using this
  have at_ : ∀ k, StrLaws.At x y x.length k → k = a.length := by
    intro k hk
    obtain ⟨h1, h2⟩ := hk
    unfold Builtin.Str.subAt at h2
    rw [beq_iff_eq, yl] at h2
    have h3 := congrArg Array.toList h2
    rw [hy, Array.toList_extract] at h3
    simp only [List.extract] at h3
    have g : ∀ j, j < 6 → x.cps.toList[k + j]? = mk6[j]? := fun j hj => by
      rw [← h3, List.getElem?_take_of_lt (by omega), List.getElem?_drop]
    have g0 := g 0 (by decide)
    have g5 := g 5 (by decide)
    rw [e] at g0 g5
    have q0 := mk_at ha hb (k := k + 0) g0
    have q5 := mk_at ha hb (k := k + 5) g5
    omega
  have here : StrLaws.At x y x.length a.length := by
    have xl : x.length = a.length + 6 + b.length := by
      have : x.cps.toList.length = a.length + 6 + b.length := by rw [e]; simp [mk6]; omega
      simpa [Str.length] using this
    refine ⟨by omega, ?_⟩
    unfold Builtin.Str.subAt
    rw [beq_iff_eq, yl]
    apply Array.ext'
    rw [hy, Array.toList_extract]
    simp only [List.extract]
    rw [e, List.append_assoc, List.drop_left, show a.length + 6 - a.length = 6 by omega]
    rfl
  obtain ⟨f, hc, hf⟩ := StrLaws.occ_tight x y (by omega)
  have : (Builtin.Str.occurrences x y 0 x.length (x.length + 1)).length = 1 := by
    match q : Builtin.Str.occurrences x y 0 x.length (x.length + 1), hc with
    | [], hc =>
      have hc : f = 0 := hc
      exact absurd here (hf _ (by omega))
    | [c], hc => rfl
    | c :: d :: r, hc =>
      obtain ⟨_, h1, _, h2⟩ := hc
      obtain ⟨h3, h4, _, _⟩ := h2
      have := at_ c h1
      have := at_ d h4
      omega
  show (((Builtin.Str.occurrences x y 0 x.length (x.length + 1)).length : Nat) : Int) = 1
  rw [this]; rfl
theorem fr_str (x : Str) (h : x.cps.toList.all (· != 39) = true) : Fr x.cps.toList := fun q => by
  rw [List.all_eq_true] at h
  have := h _ q
  simp at this
theorem cps_app (x y : Str) : (x ++ y).cps.toList = x.cps.toList ++ y.cps.toList := by
  show (x.cps ++ y.cps).toList = _
  simp
theorem fr_sep (k : Nat) : Fr (Str.ofString (if k > 0 then ", " else "")).cps.toList := by
  split <;> exact fr_str _ (by decide +kernel)
theorem tf_free : ∀ (ts : List Str) (k : Nat) (acc : Str), Fr acc.cps.toList → (∀ t ∈ ts, Fr t.cps.toList) → Fr (textFrom k acc ts).cps.toList
  | [], k, acc, ha, _ => ha
  | t :: ts, k, acc, ha, h => tf_free ts (k + 1) _ (by rw [cps_app, cps_app]; exact (ha.app (fr_sep k)).app (h t List.mem_cons_self)) fun t ht => h t (List.mem_cons_of_mem _ ht)
theorem tf_on : ∀ (ts : List Str) (k : Nat) (acc : Str), On acc.cps.toList → (∀ t ∈ ts, Fr t.cps.toList) → On (textFrom k acc ts).cps.toList
  | [], k, acc, ha, _ => ha
  | t :: ts, k, acc, ha, h => tf_on ts (k + 1) _ (by rw [cps_app, cps_app]; exact (ha.app (fr_sep k)).app (h t List.mem_cons_self)) fun t ht => h t (List.mem_cons_of_mem _ ht)
theorem tf_one : ∀ (t1 : List Str) (t : Str) (t2 : List Str) (k : Nat) (acc : Str), Fr acc.cps.toList → (∀ t ∈ t1, Fr t.cps.toList) → On t.cps.toList → (∀ t ∈ t2, Fr t.cps.toList) → On (textFrom k acc (t1 ++ t :: t2)).cps.toList
  | [], t, t2, k, acc, ha, _, ht, h2 => tf_on t2 (k + 1) _ (by rw [cps_app, cps_app]; exact On.pre (ha.app (fr_sep k)) ht) h2
  | s :: t1, t, t2, k, acc, ha, h1, ht, h2 => tf_one t1 t t2 (k + 1) _ (by rw [cps_app, cps_app]; exact (ha.app (fr_sep k)).app (h1 s List.mem_cons_self)) (fun t ht => h1 t (List.mem_cons_of_mem _ ht)) ht h2
theorem fr_list (xs : List PyData) (h : ∀ x ∈ xs, Fr x.shown.cps.toList) : Fr (PyData.list xs).shown.cps.toList := by
  simp only [PyData.shown, listText]
  rw [cps_app]
  refine (tf_free _ _ _ (fr_str _ (by decide +kernel)) fun t ht => ?_).app (fr_str _ (by decide +kernel))
  rw [shownAll_eq_map] at ht
  obtain ⟨x, hx, rfl⟩ := List.mem_map.mp ht
  exact h x hx
theorem on_list (x1 : List PyData) (x : PyData) (x2 : List PyData) (h1 : ∀ x ∈ x1, Fr x.shown.cps.toList) (h : On x.shown.cps.toList) (h2 : ∀ x ∈ x2, Fr x.shown.cps.toList) : On (PyData.list (x1 ++ x :: x2)).shown.cps.toList := by
  simp only [PyData.shown, listText]
  rw [cps_app, shownAll_eq_map, List.map_append, List.map_cons]
  refine (tf_one _ _ _ _ _ (fr_str _ (by decide +kernel)) (fun t ht => ?_) h fun t ht => ?_).app (fr_str _ (by decide +kernel))
  · obtain ⟨x, hx, rfl⟩ := List.mem_map.mp ht
    exact h1 x hx
  · obtain ⟨x, hx, rfl⟩ := List.mem_map.mp ht
    exact h2 x hx
theorem fr_int (i : Int) : Fr (PyData.int i).shown.cps.toList := fun q => (shown_int_free_39 i).mp q
theorem on_mark : On (PyData.str "mark").shown.cps.toList := ⟨[], [], by decide +kernel, by simp, by simp⟩
theorem mark_cps : ("'mark'" : Str).cps.toList = mk6 := by decide +kernel
end Im
/-! Closures: a lambda handed over, and called there. -/
namespace Im
open PySem PySem.Spec PyProof.Rows L2
/-- a lambda of the law: cap, what it captures -/
structure Lam where
  params : Arguments
  body : Expr
  scope : Scope
  cap : List Str
/-- the lambda object -/
abbrev Lam.obj (L : Lam) (q : Str) (cm : List (Str × Addr)) (pm : Value) (cd : Addr) (ct : Value) : Obj := PySem.W.kla_obj "<lambda>" q L.params L.body L.scope cm pm cd ct
def Lam.ok (L : Lam) : Bool :=
  decide (L.scope.kind = .function) && !L.scope.isCoroutine && !L.scope.isGenerator && (L.scope.names.all fun y => !decide (y.2 = .local) && !decide (y.2 = .cell) && (!decide (y.2 = .free) || L.cap.contains y.1))
/-- cells of the base, by names -/
structure CmOk (base : Heap) (L : Lam) (cm : List (Str × Addr)) (vs : List V) : Prop where
  inj : ∀ (x y : Str) (c : Addr), cm.lookup x = some c → cm.lookup y = some c → x = y
  cell : ∀ (x : Str) (c : Addr), cm.lookup x = some c → ∃ v, base.IsCell c v
  has : ∀ y ∈ L.scope.names, y.2 = .free → ∃ c, cm.lookup y.1 = some c
  len : vs.length = L.cap.length
  val : ∀ (i : Nat) (x : Str) (v : V), L.cap[i]? = some x → vs[i]? = some v → ∃ c u, cm.lookup x = some c ∧ base.IsCell c (some u) ∧ RelV v u
/-- the n-th lambda of the law stands at f, in the base; what it captured -/
def cloOf (LT : Nat → Option Lam) (base : Heap) : Hp → Addr → Nat → List V → Prop := fun H f n vs =>
  ∃ (L : Lam) (q : Str) (cm : List (Str × Addr)) (pm : Value) (cd : Addr) (ct : Value), LT n = some L ∧ base.get? f = some (L.obj q cm pm cd ct) ∧ H cd = some (LamX.CodeO cd q) ∧ CmOk base L cm vs
def ClT.of (T : List (Addr × Str)) (LT : Nat → Option Lam) (base : Heap) : ClT :=
  ⟨T, cloOf LT base, fun H H' a n vs s ⟨L, q, cm, pm, cd, ct, h1, h2, h3, h4⟩ => ⟨L, q, cm, pm, cd, ct, h1, h2, s _ _ h3 (fun z => z), h4⟩⟩
section
variable {P : Program} {w : World} {K : PySem.W.Frag} {mg : Str → Option Value} {base : Heap} {A : Around} {outer : List Env} {H : Hp} {s : Shared} {E : XK}
abbrev lamE (L : Lam) (q : Str) (cm : List (Str × Addr)) (loc f cd : Addr) : Env := PySem.W.envX q L.scope loc f (.ref cd) cm
/-- the frame of a lambda that is called at s -/
def lamX (P : Program) (w : World) (K : PySem.W.Frag) (mg : Str → Option Value) (base : Heap) (L : Lam) (q : Str) (cm : List (Str × Addr)) (f cd : Addr) (A : Around) (outer : List Env) (s : Shared) (H : Hp) (E : XK) : Cx :=
  { prog := P, w := w, K := K, mg := mg, base := base, N := L.cap, s_0 := s, H_0 := H, outer := outer, ex := [], fn := fun _ => false, calm := true, pn := []
    A := A.deeper (lamE L q cm s.heap.objs.size f cd)
    env := lamE L q cm s.heap.objs.size f cd
    stack := lamE L q cm s.heap.objs.size f cd :: outer
    xe := fun e s' => wpAny (model P w) (A.deeper (lamE L q cm s.heap.objs.size f cd)) (leaving (lamE L q cm s.heap.objs.size f cd) e) (fun _ t => L2.CX P w outer H s E e t) (fun e' t => L2.CX P w outer H s E e' t) s' }
theorem Lam.ok_of {L : Lam} (h : L.ok = true) : L.scope.kind = .function ∧ L.scope.isCoroutine = false ∧ L.scope.isGenerator = false ∧ (∀ y ∈ L.scope.names, y.2 ≠ .local ∧ y.2 ≠ .cell) ∧ ∀ y ∈ L.scope.names, y.2 = .free → y.1 ∈ L.cap := by
  unfold Lam.ok at h
  simp only [Bool.and_eq_true, Bool.or_eq_true, Bool.not_eq_true', decide_eq_true_eq, decide_eq_false_iff_not, List.all_eq_true, List.contains_iff_mem] at h
  obtain ⟨⟨⟨h1, h2⟩, h3⟩, h4⟩ := h
  exact ⟨h1, h2, h3, fun y hy => (h4 y hy).1, fun y hy e => ((h4 y hy).2).resolve_left fun z => z e⟩
theorem lamX_start {L : Lam} {q : Str} {cm : List (Str × Addr)} {f cd : Addr} {vs : List V} {h' : Heap} {tk : Nat} (hL : L.ok = true) (M : CmOk base L cm vs) (e0 : Env0 P w K mg base A outer s H) (hd : A.handled = none)
    (hns : h'.Ns s.heap.objs.size fun y => ([] : List (Str × Value)).reverse.lookup y) (kp : ∀ b o, s.heap.get? b = some o → h'.get? b = some o) :
    Inv (lamX P w K mg base L q cm f cd A outer s H E) [] (vs.map some) H { s with heap := h', toks := tk } := by
  obtain ⟨k1, k2, k3, k4, k5⟩ := Lam.ok_of hL
  have no : ∀ b : Addr, b ∉ (lamX P w K mg base L q cm f cd A outer s H E).ex := fun b z => nomatch (show b ∈ ([] : List Addr) from z)
  have up : ∀ {c : Addr} {v : Option Value}, base.IsCell c v → h'.IsCell c v := fun {c v} ⟨o, ho, hd⟩ => ⟨o, kp _ _ (e0.bs _ _ ho).1, hd⟩
  have fr : ∀ {c : Addr} {v : Option Value}, base.IsCell c v → H c = none := fun {c v} ⟨o, ho, hd⟩ => (e0.bs _ _ ho).2
  refine ⟨⟨e0.mod, k1, rfl, rfl, Nat.le_refl _, M.inj, fun y hy => ?_, fun y c z _ => Bool.noConfusion (show false = true from z), fun _ => hd, Around.frames_deeper e0.frames, .inr ⟨rfl, rfl⟩, fun b z => absurd z (no b), e0.bs, e0.bsz, fun b _ _ => no b, fun b z => absurd z (no b), e0.funs, e0.frf⟩,
    rfl, e0.bare, Un.kept kp, ⟨_, hns, fun i y v e1 e2 e3 => ?_⟩, fun y c e => ?_, e0.hok.fresh (Nat.le_refl _), fun y c e => ?_, fun q hq => (nomatch (show q ∈ ([] : List (Addr × Obj)) ++ [] from hq)), e0.hok.kept kp, ?_⟩
  · have hy : L.scope.names.lookup y = some .cell ∨ L.scope.names.lookup y = some .free := hy
    rcases hy with hy | hy
    · exact absurd rfl (k4 _ (PySem.mem_of_lookup hy)).2
    · exact M.has _ (PySem.mem_of_lookup hy) rfl
  · have e3 : Vis L.scope y := e3
    rcases e3 with k | k | k
    · exact absurd rfl (k4 _ (PySem.mem_of_lookup k)).1
    · exact absurd rfl (k4 _ (PySem.mem_of_lookup k)).2
    · have e4 : vs[i]? = some v := by
        rw [List.getElem?_map] at e2
        cases z : vs[i]? with
        | none => rw [z] at e2; cases e2
        | some x => rw [z] at e2; cases e2; rfl
      obtain ⟨c, u, m1, m2, m3⟩ := M.val i y v e1 e4
      exact ⟨u, m3, .inr ⟨.inr k, c, m1, up m2⟩⟩
  · obtain ⟨v, z⟩ := M.cell y c e
    exact ⟨v, up z⟩
  · obtain ⟨v, z⟩ := M.cell y c e
    exact fr z
  · show (vs.map some).length = L.cap.length
    rw [List.length_map, M.len]
/-- a lambda called -/
theorem lam_run {L : Lam} {q : Str} {cm : List (Str × Addr)} {pm ct : Value} {f cd : Addr} {k : Nat} {vs : List V} {tb : TE} {Q : VK} (hL : L.ok = true) (M : CmOk base L cm vs) (hf : base.get? f = some (L.obj q cm pm cd ct)) (hcd : H cd = some (LamX.CodeO cd q)) (hr : Room (k + 1) A) (e0 : Env0 P w K mg base A outer s H)
    (hbind : bindArgs (PySem.W.kla_fn "<lambda>" q L.params L.body L.scope cm pm (.ref cd) ct) ⟨[], []⟩ = pure [])
    (hb : Room k (A.deeper (lamE L q cm s.heap.objs.size f cd)) → PE (lamX P w K mg base L q cm f cd A outer s H E) L.body tb) (ht : tb (vs.map some) H Q) :
    codeAny (model P w) A (.call (.ref f) ⟨[], []⟩) (CR (L2.CX P w) outer P w H s Q E) s := by
  obtain ⟨k1, k2, k3, k4, k5⟩ := Lam.ok_of hL
  obtain ⟨⟨oc, us, t, hoc, hdc, hvc⟩, _, _⟩ := e0.hok cd _ hcd
  have lim : s.heap.NoLimit := e0.mod.nolimit.keeps fun b o e => (e0.bs b o e).1
  refine PySem.W.kla_callFunE hr.depth (e0.bs _ _ hf).1 rfl k2 k3 rfl ⟨cd, oc, us, t, rfl, hoc, hdc, hvc⟩ ?_
  rw [hbind]
  refine wpAny_pure (wpAny_newFunctionEnv (fun y hy => (k4 y hy).2) (fun y hy => absurd hy (by simp)) (fun h' hns hsb => ⟨lim.fresh _ hsb, ?_⟩) k1)
  have kp : ∀ b o, s.heap.get? b = some o → h'.get? b = some o := fun b o e => hsb.extBut b o (Nat.ne_of_lt (Heap.lt_size e)) (Heap.get?_push_of_some _ e)
  have J : Inv (lamX P w K mg base L q cm f cd A outer s H E) [] (vs.map some) H { s with heap := h', toks := s.toks + ([] : List (Str × Value)).length } := lamX_start hL M e0 hr.hd hns kp
  show codeAny _ _ (.expr L.body (lamE L q cm s.heap.objs.size f cd)) _ _
  refine PySem.W.kla_codeExpr (wpAny_mono ((hb (hr.deeper _)).run [] _ _ H Q J ht) (fun v t' hq => ?_) fun e t' hq => hq)
  obtain ⟨v', H', J', rv, q'⟩ := hq
  exact ⟨v', H', J'.os, J'.bare, J'.base, J'.hok, rv, q'⟩
end
/-- what a closure's call comes to -/
def resC : Res → FRes
  | .exc c x => .exc c x
  | _ => .bad
def mAct (i : Nat) (CF : Nat → List D → FRes) : EM := fun en => match en[i]? with
  | some (some (.clo n ds)) => match CF n ds with
    | .exc c x => .exc c x
    | _ => .bad
  | _ => .bad
/-- the closures of a law do what CF says: k, the room that they want -/
structure LamsOk (P : Program) (w : World) (K : PySem.W.Frag) (mg : Str → Option Value) (base : Heap) (G : GI) (LT : Nat → Option Lam) (CF : Nat → List D → FRes) (k : Nat) : Prop where
  ok : ∀ n L, LT n = some L → L.ok = true
  bind : ∀ n L, LT n = some L → ∀ (q : Str) (cm : List (Str × Addr)) (pm : Value) (cd : Addr) (ct : Value), bindArgs (PySem.W.kla_fn "<lambda>" q L.params L.body L.scope cm pm (.ref cd) ct) ⟨[], []⟩ = pure []
  body : ∀ n L, LT n = some L → ∃ (M : EM) (Γ' : List Nat), (∀ ds, CF n ds = resC (M (ds.map some))) ∧ ∀ (q : Str) (cm : List (Str × Addr)) (f cd : Addr) (A : Around) (outer : List Env) (s : Shared) (H : Hp) (E : XK), A.guards = some [] → Room k (A.deeper (lamE L q cm s.heap.objs.size f cd)) →
    EI (lamX P w K mg base L q cm f cd A outer s H E) G (fun c d _ H => E c d H) [] (List.replicate L.cap.length 0) L.body 0 [] Γ' M
section
variable {X : Cx} {W : WX} {lk lk' L L' : List Nat} {Z Z' : Addr → Prop} {σ σ' : St} {H H' : Hp} {Γ Γ' : List Nat} {en en' : En} {fps fps' : Nat → List Addr} {κ k : Nat} {K : PySem.W.Frag} {fn cls : Str → Option Addr} {T : List (Addr × Str)} {LT : Nat → Option Lam} {CF : Nat → List D → FRes} {p1 p2 : Pos}
theorem own_clo {G : GI} {n : Nat} {v : V} {ds : List D} {fp : List Addr} (h : Own G Z H k v (.clo n ds) fp) : ∃ a vs, v = .ref a ∧ G.clo H a n vs ∧ OwnL G Z H 0 vs ds [] := by
  cases h with
  | clo hc hl => exact ⟨_, _, rfl, hc, hl⟩
theorem own_get0 {G : GI} : ∀ {vs : List V} {ds : List D} {i : Nat} {d : D}, OwnL G Z H 0 vs ds [] → ds[i]? = some d → ∃ v, vs[i]? = some v ∧ Own G Z H 0 v d [] := fun h e => by
  obtain ⟨v, fp, h1, h2, h3⟩ := h.get e
  rw [h2.z0] at h2
  exact ⟨v, h1, h2⟩
/-- the frame of a lambda: nothing is owned -/
theorem clo_cfg {G : GI} {vs : List V} {ds : List D} (zt : (∀ a, Z a → ∃ o, H a = some o ∧ NT o)) (tab : TabO G.T H) (h : OwnL G Z H 0 vs ds []) (n : Nat) :
    Cfg G (bsF H Z (fun _ => []) []) [] Z (vs.map some) H (List.replicate n 0) (ds.map some) (fun _ => []) where
  bok := ⟨fun a ⟨j, m⟩ => (nomatch m), fun _ _ z => z.elim, fun _ _ z => z.elim, zt, fun a z ⟨j, m⟩ => (nomatch m), fun _ _ _ z => z.elim⟩
  len := by rw [List.length_map, List.length_map, h.len]
  rep := fun i d e => by
    have e2 : ds[i]? = some d := by
      rw [List.getElem?_map] at e
      cases q : ds[i]? with
      | none => rw [q] at e; cases e
      | some y => rw [q] at e; cases e; rfl
    obtain ⟨v, h1, h2⟩ := own_get0 h e2
    refine ⟨v, by rw [List.getElem?_map, h1]; rfl, ?_⟩
    have g : (List.replicate n 0).getD i 0 = 0 := by
      rw [List.getD_eq_getElem?_getD, List.getElem?_replicate]
      split <;> rfl
    rw [g]; exact h2
  emp := fun _ _ => rfl
  nd := fun _ => List.nodup_nil
  dis := fun _ _ _ h => nomatch h
  nz := fun _ _ h => nomatch h
  zt := zt
  tab := tab
  keep := fun a o e _ => .inl e
  newf := fun _ _ h => nomatch h
  lkd := fun _ _ _ h => nomatch h
  lks := fun _ _ h => h.elim
  zb := fun _ z => z
  zn := fun _ z => .inl z
  pin := fun _ h => nomatch h
/-- x() of a closure -/
theorem ei_act {i : Nat} {x : Str} (LO : LamsOk X.prog X.w X.K X.mg X.base (mkG K fn cls (ClT.of T LT X.base)) LT CF k) (hN : X.N[i]? = some x) (hv : Vis X.env.scope x) (hgd : X.A.guards = some []) (hr : Room (k + 1) X.A) (tk : Takes X W) (hd : (x == ("__debug__" : Str)) = false := by decide) (hcd : (x == ("__classdict__" : Str)) = false := by decide) :
    EI X (mkG K fn cls (ClT.of T LT X.base)) W lk Γ (.Call (.Name x p1) [] [] p2) κ [] Γ (mAct i CF) := by
  refine ⟨fun pins s σ H Q I ⟨B, Z, en, fps, C, o⟩ => ?_⟩
  unfold mAct at o
  split at o
  · rename_i n ds e
    obtain ⟨v, h1, h2⟩ := C.rep i _ e
    obtain ⟨f, vs, rfl, hc, hl⟩ := own_clo h2
    obtain ⟨Lm, q, cm, pm, cd, ct, l1, l2, l3, l4⟩ := hc
    obtain ⟨M, Γ2, hM, hb⟩ := LO.body n Lm l1
    rw [hM ds] at o
    refine wpAny_Call_Name_kw (thn ((pe_var (pos := p1) hN hv hd hcd).run pins s σ H (fun v H1 => v = .ref f ∧ H1 = H) I ⟨.ref f, h1, rfl, rfl⟩) fun u s1 ⟨v, H1, I1, r1, q1, q2⟩ => ?_)
    subst q1 q2
    obtain rfl : u = Value.ref f := r1
    have e0 := I1.env0
    refine PySem.W.callWith_F0 ⟨_, _, _, _, (I1.bs _ _ l2).1⟩ ?_
    have rc := lam_run (E := WE W σ) (Q := Q) (LO.ok n Lm l1) l4 l2 l3 hr e0 (LO.bind n Lm l1 q cm pm cd ct) (fun hr2 => hb q cm f cd X.A X.stack s1 H1 (WE W σ) hgd hr2) ⟨bsF H1 Z (fun _ => []) [], Z, ds.map some, fun _ => [], clo_cfg C.zt C.tab hl _, by
      cases em : M (ds.map some) with
      | bad => rw [em] at o; exact o.elim
      | ok d en2 => rw [em] at o; exact o.elim
      | exc c x =>
        rw [em] at o
        intro Cc dd H' y
        refine o Cc dd H' (call_exc (L := []) (f := fun _ => []) C (fun j a m => nomatch m) ?_)
        obtain ⟨w0, Z0, y1, y2, y3, y4, y5⟩ := y.ex
        exact ⟨y.cls, ⟨w0, Z0, y1, y2, fun a z => y3 a (Zl_nil.mp z), fun a z => by
          rcases y4 a z with t | t | ⟨j, t⟩ | t
          · exact .inl (Zl_nil.mpr t)
          · exact .inr (.inl t)
          · exact t.elim
          · exact .inr (.inr (.inr t)), y5⟩, y.keep, y.tab⟩⟩
    have hx := passAt tk σ
    refine wpAny_call (codeAny_mono rc fun r s' hq => ?_)
    cases r with
    | error e => exact hx pins H1 s1 e s' I1 hq
    | ok fl =>
      cases fl with
      | ret u => exact I1.after hq
      | next => exact False.elim hq
      | brk => exact False.elim hq
      | cont => exact False.elim hq
  · exact o.elim
end
end Im
/-! Closures: made, and handed over. -/
namespace Im
open PySem PySem.Spec PyProof.Rows L2
/-- the base for a call from here: all that is not tracked, but the frames -/
def nbase (X : Cx) (s : Shared) (H : Hp) : Heap := PySem.W.hideAll s.heap (trk s.heap H ++ frs X.stack)
section
variable {X : Cx} {pins : List (Addr × Obj)} {σ : St} {H : Hp} {s : Shared}
theorem nb_get {b : Addr} {o : Obj} (e : s.heap.get? b = some o) (n : H b = none) (f : b ∉ frs X.stack) : (nbase X s H).get? b = some o :=
  PySem.W.hideAll_get _ e fun hm => by
    rcases List.mem_append.mp hm with hm | hm
    · have q : (H b).isSome = true := (List.mem_filter.mp hm).2
      rw [n] at q; cases q
    · exact f hm
theorem of_nb {b : Addr} {o : Obj} (e : (nbase X s H).get? b = some o) : s.heap.get? b = some o ∧ H b = none := by
  have e' : s.heap.get? b = some o := PySem.W.of_hideAll _ e
  refine ⟨e', ?_⟩
  cases q : H b with
  | none => rfl
  | some x =>
    have hm : b ∈ trk s.heap H ++ frs X.stack := List.mem_append_left _ (List.mem_filter.mpr ⟨List.mem_range.mpr (Heap.lt_size e'), by rw [q]; rfl⟩)
    have z := PySem.W.hideAll_none (h := s.heap) _ hm
    rw [show PySem.W.hideAll s.heap (trk s.heap H ++ frs X.stack) = nbase X s H from rfl, e] at z; cases z
theorem nb_base (I : Inv X pins σ H s) : ∀ b o, X.base.get? b = some o → (nbase X s H).get? b = some o := fun b o e =>
  nb_get (I.bs b o e).1 (I.bs b o e).2 fun hb => by
    have z := (I.stack.mem hb).1
    rw [e] at z; cases z
/-- a callee, told from that base -/
theorem env_nb (I : Inv X pins σ H s) : Env0 X.prog X.w X.K X.mg (nbase X s H) X.A X.stack s H := by
  have e := I.env0
  have k := nb_base I
  refine ⟨e.frames, ⟨e.mod.kin.keeps k, e.mod.glob.keeps k, ?_, e.mod.nolimit.keeps k⟩, fun b o q => of_nb q, Nat.le_of_eq (PySem.W.hideAll_size _ _), ?_, e.frf, e.hok, e.bare⟩
  · obtain ⟨mb, h1, h2⟩ := e.mod.blt
    exact ⟨mb, h1.keeps k, h2⟩
  · exact PySem.W.funFrames_hide I.stack fun env he a ha => List.mem_append_right _ (List.mem_filterMap.mpr ⟨env, he, ha⟩)
/-- cells that were made here are no frames -/
theorem cell_off (I : Inv X pins σ H s) {x : Str} {c : Addr} (hf : X.fn x = true) (e : X.env.cells.lookup x = some c) : c ∉ frs X.stack := fun hb => by
  rcases List.mem_cons.mp (I.stkSub c hb) with z | z
  · exact I.cne x c e z
  · obtain ⟨_, o, ho, _⟩ := I.ok.funs.mem z
    exact absurd (Nat.lt_of_lt_of_le (Heap.lt_size ho) (I.ok.cab x c hf e)) (Nat.lt_irrefl _)
theorem nb_cell (I : Inv X pins σ H s) {x : Str} {c : Addr} {u : Option Value} (hf : X.fn x = true) (e : X.env.cells.lookup x = some c) (h : s.heap.IsCell c u) : (nbase X s H).IsCell c u := by
  obtain ⟨o, h1, h2⟩ := h
  exact ⟨o, nb_get h1 (I.freeC x c e) (cell_off I hf e), h2⟩
/-- what a lambda captures here: the slots is -/
structure CapOk (X : Cx) (L : Lam) (is : List Nat) : Prop where
  ls : LamX.LamS X.env.scope L.scope
  fn : ∀ y ∈ L.scope.names, y.2 = .free → X.fn y.1 = true
  cap : ∀ (i : Nat) (x : Str), L.cap[i]? = some x → (x, NameKind.free) ∈ L.scope.names
  len : is.length = L.cap.length
  sl : ∀ (i j : Nat) (x : Str), is[i]? = some j → L.cap[i]? = some x → X.N[j]? = some x
theorem cm_ok {L : Lam} {is : List Nat} {vs : List V} (I : Inv X pins σ H s) (O : CapOk X L is) (hl : vs.length = is.length) (hv : ∀ (i j : Nat), is[i]? = some j → ∃ v, vs[i]? = some v ∧ σ[j]? = some (some v)) :
    CmOk (nbase X s H) L (cloFrom X.env.cells L.scope.names []) vs := by
  have has := O.ls.has I.ok
  have cm : ∀ {y : Str} {c : Addr}, (cloFrom X.env.cells L.scope.names []).lookup y = some c → X.env.cells.lookup y = some c ∧ X.fn y = true := fun {y c} e => by
    rcases cloFrom_mem (PySem.mem_of_lookup e) with hm | ⟨h1, h2⟩
    · cases hm
    · obtain ⟨c1, hc⟩ := has _ h1 rfl
      have hc : X.env.cells.lookup y = some c1 := hc
      refine ⟨?_, O.fn _ h1 rfl⟩
      rw [hc] at h2
      rw [hc, h2]; rfl
  refine ⟨fun x y c h1 h2 => I.ok.inj x y c (cm h1).1 (cm h2).1, fun x c e => ?_, fun y hy e => ?_, by rw [hl, O.len], fun i x v e1 e2 => ?_⟩
  · obtain ⟨v, h⟩ := I.cell x c (cm e).1
    exact ⟨v, nb_cell I (cm e).2 (cm e).1 h⟩
  · have hy : (y.1, NameKind.free) ∈ L.scope.names := by rw [← e]; exact hy
    exact mem_lookup (cloFrom_has (cells := X.env.cells) (acc := []) hy)
  · have hi : i < is.length := by rw [← hl]; exact (List.getElem?_eq_some_iff.mp e2).1
    have ej := List.getElem?_eq_getElem hi
    obtain ⟨v', h1, h2⟩ := hv i _ ej
    rw [e2] at h1; cases h1
    have hx := O.cap i x e1
    obtain ⟨c, hc⟩ := mem_lookup (cloFrom_has (cells := X.env.cells) (acc := []) hx)
    obtain ⟨m, hn, hlo⟩ := I.loc
    have hk : X.env.scope.names.lookup x = some .cell ∨ X.env.scope.names.lookup x = some .free := O.ls.free _ hx rfl
    obtain ⟨u, r, q⟩ := hlo _ x v (O.sl i _ x ej e1) h2 (hk.elim (fun k => .inr (.inl k)) fun k => .inr (.inr k))
    rcases q with ⟨k, _⟩ | ⟨_, c3, e3, z⟩
    · have k : X.env.scope.names.lookup x = some .local := k
      rcases hk with k2 | k2 <;> rw [k] at k2 <;> cases k2
    · have e4 := (cm hc).1
      rw [e4] at e3; cases e3
      exact ⟨c, u, hc, nb_cell I (cm hc).2 e4 z, r⟩
/-- one more pin: a lambda -/
theorem pin_lam {L : Lam} {q : Str} {cm : List (Str × Addr)} {pm ct : Value} {f cd : Addr} (I : Inv X pins σ H s) (hf : s.heap.get? f = some (L.obj q cm pm cd ct)) (hn : H f = none) (hs : f ∉ frs X.stack) : Inv X ((f, L.obj q cm pm cd ct) :: pins) σ H s := by
  have n1 : f ≠ X.env.locals := fun z => by
    obtain ⟨m, ⟨o, es, ep, e, d, _⟩, _⟩ := I.loc
    rw [← z, hf] at e; cases e
    cases d
  have n2 : f ∉ X.fs := fun z => by
    rcases I.ok.stk with e | ⟨e, hl⟩
    · exact hs (by rw [e]; exact z)
    · exact hs (by
        rw [e]
        show f ∈ List.filterMap _ (X.env :: X.outer)
        rw [List.filterMap_cons, hl]
        exact List.mem_cons_of_mem _ z)
  refine ⟨I.ok, I.os, I.bare, I.base, I.loc, I.cell, I.free, I.freeC, fun p hp => ?_, I.hok, I.len⟩
  rcases List.mem_append.mp hp with hp | hp
  · exact I.pin p (List.mem_append_left _ hp)
  · rcases List.mem_cons.mp hp with rfl | hp
    · exact ⟨hf, hn, n1, n2, fun v z => nomatch z⟩
    · exact I.pin p (List.mem_append_right _ hp)
theorem less_pins {more : List (Addr × Obj)} (I : Inv X (more ++ pins) σ H s) : Inv X pins σ H s :=
  ⟨I.ok, I.os, I.bare, I.base, I.loc, I.cell, I.free, I.freeC, fun p hp => I.pin p (by
    rcases List.mem_append.mp hp with hp | hp
    · exact List.mem_append_left _ hp
    · exact List.mem_append_right _ (List.mem_append_right _ hp)), I.hok, I.len⟩
abbrev lamX2 (l : Lam × Pos) : Expr := .Lambda l.1.params l.1.body l.1.scope l.2
/-- f is the lambda L of this frame -/
def LamAt (X : Cx) (pins : List (Addr × Obj)) (H : Hp) (L : Lam) (f : Addr) : Prop :=
  ∃ (pm : Value) (cd : Addr) (ct : Value), (f, L.obj (X.env.qual ++ "<lambda>") (cloFrom X.env.cells L.scope.names []) pm cd ct) ∈ pins ∧ H cd = some (LamX.CodeO cd (X.env.qual ++ "<lambda>"))
inductive LamsAt (X : Cx) (pins : List (Addr × Obj)) (H : Hp) : List (Lam × Pos) → List Addr → Prop
  | nil : LamsAt X pins H [] []
  | cons {l : Lam × Pos} {f : Addr} {ls : List (Lam × Pos)} {fs : List Addr} : LamAt X pins H l.1 f → LamsAt X pins H ls fs → LamsAt X pins H (l :: ls) (f :: fs)
theorem LamAt.mono {L : Lam} {f : Addr} {pins' : List (Addr × Obj)} {H' : Hp} (h : LamAt X pins H L f) (hp : ∀ p ∈ pins, p ∈ pins') (hH : StayI H H') : LamAt X pins' H' L f := by
  obtain ⟨pm, cd, ct, h1, h2⟩ := h
  exact ⟨pm, cd, ct, hp _ h1, hH _ _ h2 fun z => z⟩
theorem LamsAt.mono {ls : List (Lam × Pos)} {fs : List Addr} {pins' : List (Addr × Obj)} {H' : Hp} (h : LamsAt X pins H ls fs) (hp : ∀ p ∈ pins, p ∈ pins') (hH : StayI H H') : LamsAt X pins' H' ls fs := by
  induction h with
  | nil => exact .nil
  | cons h _ ih => exact .cons (h.mono hp hH) ih
theorem extN_stay {H H' : Hp} (h : LamX.ExtN H H') : StayI H H' := fun a o e n => h a o e (nct n)
/-- where lambdas are made: the code object and its table -/
structure MkOk (X : Cx) (T : List (Addr × Str)) (c P : Addr) : Prop where
  tb : LamX.TabB X.base X.mg c P
  code : X.env.code = .ref c
  mem : (P, X.env.qual ++ "<lambda>") ∈ T
  uni : ∀ p ∈ T, p.1 = P → p.2 = X.env.qual ++ "<lambda>"
theorem lams_make {T : List (Addr × Str)} {c P : Addr} {pos : Pos} {E : Value → Shared → Prop} (M : MkOk X T c P) : ∀ (ls : List (Lam × Pos)) (pins : List (Addr × Obj)) (H : Hp) (s : Shared) (Q : List Value → Shared → Prop), (∀ l ∈ ls, LamX.LamS X.env.scope l.1.scope ∧ defaultsOf l.1.params X.env = ([], [])) →
    Inv X pins σ H s → LamX.Tabs T H → (∀ (fs : List Addr) (more : List (Addr × Obj)) (H1 : Hp) (s1 : Shared), Inv X (more ++ pins) σ H1 s1 → LamX.ExtN H H1 → LamX.Tabs T H1 → LamsAt X (more ++ pins) H1 ls fs → Q (fs.map Value.ref) s1) →
    wpAny (model X.prog X.w) X.A (spliced (backTo pos (starEach (ls.map lamX2) X.env))) Q E s
  | [], pins, H, s, Q, _, I, hT, h => Calls.spliced_nil (h [] [] H s I (LamX.ExtN.refl H) hT .nil)
  | l :: ls, pins, H, s, Q, hl, I, hT, h => by
    show wpAny _ _ (spliced ((false, eval (.Lambda l.1.params l.1.body l.1.scope l.2) X.env) :: backTo pos (starEach (ls.map lamX2) X.env))) _ _ s
    have hl0 := hl l List.mem_cons_self
    refine Calls.spliced_cons (LamX.lam_make2 I M.tb M.code M.mem M.uni hT hl0.2 (hl0.1.has I.ok) fun f cd pm ct H1 s1 I1 eN T1 hf hn hs hc => ?_)
    have I2 := pin_lam (L := l.1) I1 hf hn hs
    refine lams_make M ls _ H1 s1 _ (fun y hy => hl y (List.mem_cons_of_mem _ hy)) I2 T1 fun fs more H2 s2 I3 eN2 T2 hA => ?_
    have e : ∀ p : Addr × Obj, p ∈ more ++ ((f, l.1.obj (X.env.qual ++ "<lambda>") (cloFrom X.env.cells l.1.scope.names []) pm cd ct) :: pins) → p ∈ (more ++ [(f, l.1.obj (X.env.qual ++ "<lambda>") (cloFrom X.env.cells l.1.scope.names []) pm cd ct)]) ++ pins := fun p hp => by
      simpa using hp
    refine h (f :: fs) (more ++ [(f, l.1.obj (X.env.qual ++ "<lambda>") (cloFrom X.env.cells l.1.scope.names []) pm cd ct)]) H2 s2 ?_ (eN.trans eN2) T2 (.cons ⟨pm, cd, ct, by simp, ?_⟩ (hA.mono e fun _ _ q _ => q))
    · rw [List.append_assoc]; exact I3
    · exact eN2 _ _ hc LamX.codeO_ne
/-- tables that are not in T, let go -/
noncomputable def unT (T : List (Addr × Str)) (H : Hp) : Hp := fun a => match H a with
  | some (.tbl ps) => open Classical in if ∃ q, (a, q) ∈ T then some (.tbl ps) else none
  | x => x
theorem unT_nt {T : List (Addr × Str)} {a : Addr} {o : HO} (h : H a = some o) (n : NT o) : unT T H a = some o := by
  unfold unT
  rw [h]
  cases o with
  | tbl ps => exact absurd rfl (n ps)
  | _ => rfl
theorem unT_in {T : List (Addr × Str)} {a : Addr} {ps : Array Value} {q : Str} (h : H a = some (.tbl ps)) (m : (a, q) ∈ T) : unT T H a = some (.tbl ps) := by
  unfold unT
  rw [h]
  exact if_pos ⟨q, m⟩
theorem unT_of {T : List (Addr × Str)} {a : Addr} {o : HO} (h : unT T H a = some o) : H a = some o ∧ ∀ ps, o = .tbl ps → ∃ q, (a, q) ∈ T := by
  unfold unT at h
  split at h
  · rename_i ps e
    split at h
    · rename_i c
      cases h
      exact ⟨e, fun _ _ => c⟩
    · cases h
  · rename_i x
    exact ⟨h, fun ps z => by subst z; exact absurd h (x ps)⟩
theorem unT_none {T : List (Addr × Str)} {a : Addr} (h : H a = none) : unT T H a = none := by
  unfold unT; rw [h]
theorem inv_unT {T : List (Addr × Str)} (I : Inv X pins σ H s) (hb : ∀ b ps, X.H_0 b = some (.tbl ps) → ∃ q, (b, q) ∈ T) : Inv X pins σ (unT T H) s := by
  refine ⟨I.ok, I.os, I.bare, ⟨I.base.keep, I.base.slot, fun b o e n x => unT_none (I.base.free b o e n x), I.base.there, fun b xs e => unT_nt (I.base.tups b xs e) (fun _ z => nomatch z), fun b o u e => unT_nt (I.base.frzs b o u e) (fun _ z => nomatch z), fun b ps e => ?_⟩,
    I.loc, I.cell, unT_none I.free, fun x c e => unT_none (I.freeC x c e), fun p hp => ?_, fun a o e => ?_, I.len⟩
  · obtain ⟨q, m⟩ := hb b ps e
    obtain ⟨more, e2⟩ := I.base.tbls b ps e
    exact ⟨more, unT_in e2 m⟩
  · obtain ⟨h1, h2, h3⟩ := I.pin p hp
    exact ⟨h1, unT_none h2, h3⟩
  · exact (I.hok a o (unT_of e).1).stay (fun d v _ q => q) (fun d q => unT_nt q (fun _ z => nomatch z)) fun d xs q => unT_nt q (fun _ z => nomatch z)
/-- after lambdas were made -/
theorem made_tab {T : List (Addr × Str)} {H1 : Hp} (hO : TabO T H) (hT : LamX.Tabs T H1) (eN : LamX.ExtN H H1) : TabO T (unT T H1) ∧ (∀ a o, H a = some o → Kp o (unT T H1 a)) ∧ StayI H1 (unT T H1) := by
  refine ⟨⟨fun x hx => ?_, fun a ps e => (unT_of e).2 ps rfl⟩, fun a o e => ?_, fun a o e n => unT_nt e (nct n)⟩
  · obtain ⟨ps, h1, h2, h3⟩ := hT x hx
    refine ⟨ps, unT_in (q := x.2) h1 hx, h2, fun pos cv hcv => ?_⟩
    obtain ⟨c, e1, e2⟩ := h3 pos cv hcv
    exact ⟨c, e1, unT_nt e2 LamX.codeO_ne⟩
  · by_cases t : NT o
    · exact .inl (unT_nt (eN a o e t) t)
    · have t2 : ∃ ps, o = .tbl ps := Classical.not_forall_not.mp t
      obtain ⟨ps, rfl⟩ := t2
      obtain ⟨q, m⟩ := hO.2 a ps e
      obtain ⟨ps', h1, _⟩ := hT (a, q) m
      exact .inr ⟨ps, ps', rfl, unT_in h1 m⟩
variable {W : WX} {lk L La : List Nat} {Z Z' : Addr → Prop} {H' : Hp} {Γ Γ' : List Nat} {en en' : En} {fps fps' : Nat → List Addr} {κ k : Nat} {K : PySem.W.Frag} {fn cls : Str → Option Addr} {cl : ClT} {LT : Nat → Option Lam} {B : Bs} {v : V} {d : D}
variable {fa : Addr} {fd : FuncData} {ps : List Str} {sg : Sg} {F : List D → FRes} {pm : List Nat} {nu : Nat}
/-- a def called with closures among the arguments: told from the new base -/
theorem clo_call {Q : VK} {us : List Value} {vs : List V} {ds : List D} {ios : En} (I : Inv X pins σ H s) (C : Cfg (mkG K fn cls cl) B lk Z σ H Γ en fps)
    (Fo : FnG X.prog X.w X.K X.mg (nbase X s H) (L2.CX X.prog X.w) k fa fd ps (spI (mkG K fn cls (ClT.of cl.T LT (nbase X s H))) sg F)) (hgd : X.A.guards = some []) (hr : Room k X.A) (hb : KB X.K fd ps nu [] pm) (hpm : ∀ {α : Type} (l : List α), l.length = nu → permL pm l = l) (tk : Takes X W)
    (hks : sg.ks = List.replicate nu 0) (hio : ioShort sg.io 0 = true)
    (r : Vals vs us) (hn : vs.length = nu) (own : OwnL (mkG K fn cls (ClT.of cl.T LT (nbase X s H))) (Zl Z L fps) H 0 vs ds []) (hF : F ds = .ok d ios) (hd : scD d = true)
    (o : ∀ v Z' H' fps', Cfg (mkG K fn cls cl) B lk Z' σ H' Γ en fps' → ScV v d → Q v H') :
    wpAny (model X.prog X.w) X.A (call (.ref fa) us []) (EP X pins σ Q) X.xe s := by
  have e0 := env_nb I
  have hl : us.length = nu := by rw [← r.length, hn]
  have b := hb s us [] I.kIn hl rfl
  rw [List.append_nil, hpm us hl] at b
  have zt : ∀ a, Zl Z L fps a → ∃ o, H a = some o ∧ NT o := fun a z => by
    rcases z with z | ⟨i, _, z⟩
    · exact C.zt a z
    · obtain ⟨o, e, t⟩ := C.chg z
      exact ⟨o, e, t.nt⟩
  have hg0 : ∀ j, sg.ks.getD j 0 = 0 := fun j => by
    rw [hks, List.getD_eq_getElem?_getD, List.getElem?_replicate]
    split <;> rfl
  have sp : spI (mkG K fn cls (ClT.of cl.T LT (nbase X s H))) sg F vs H Q (WE W σ) := by
    refine ⟨by rw [hks, List.length_replicate, hn], Zl Z L fps, ds, fun _ => [], ⟨zt, C.tab⟩, ⟨fun j d' e => ?_, own.len, fun _ _ => rfl, fun _ => List.nodup_nil, fun _ _ _ h => (nomatch h), fun _ _ h => (nomatch h)⟩, ?_⟩
    · obtain ⟨v', q1, q2⟩ := own_get0 own e
      refine ⟨v', q1, ?_⟩
      rw [hg0 j]; exact q2
    · rw [hF]
      intro v' Z' H' fr f' x
      have sc := scD_scv x.own hd
      have x2 : EndOk (mkG K fn cls cl) sg H (Zl Z L fps) (fun _ => []) vs d [] v' Z' H' [] (fun _ => []) :=
        ⟨x.keep, x.tab, x.zb, x.zn, x.zt, sc.1.own, List.nodup_nil, fun _ h => (nomatch h), fun _ h => (nomatch h), fun j d' q => by simp at q, fun _ => List.nodup_nil, fun _ _ h => (nomatch h), fun _ _ h => (nomatch h), fun _ _ h => (nomatch h)⟩
      obtain ⟨D1, D2, _⟩ := call_back (f := fun _ => []) C (fun j a m => (nomatch m)) (fun j a m => (nomatch m)) (fun j a m => (nomatch m)) (fun j a m => (nomatch m)) x2
      exact o v' _ H' _ D1 sc.1
  have rc := Fo.run X.A X.stack s H ⟨us, []⟩ us vs Q (WE W σ) hgd hr e0 b r sp
  have hx := passAt tk σ
  refine wpAny_call (codeAny_mono rc fun r s' hq => ?_)
  cases r with
  | error e => exact hx pins H s e s' I hq
  | ok fl =>
    cases fl with
    | ret u => exact I.after hq
    | next => exact False.elim hq
    | brk => exact False.elim hq
    | cont => exact False.elim hq
/-- what is captured at the slots is -/
def capD : List Nat → En → Option (List D)
  | [], _ => some []
  | j :: is, en => match en[j]? with
    | some (some d) => if noTag d then (capD is en).map (d :: ·) else none
    | _ => none
def capsD : List (Nat × List Nat) → En → Option (List D)
  | [], _ => some []
  | n :: ns, en => match capD n.2 en with
    | some ds => (capsD ns en).map (D.clo n.1 ds :: ·)
    | none => none
theorem cap_own {cl' : ClT} (C : Cfg (mkG K fn cls cl) B lk Z σ H Γ en fps) : ∀ {is : List Nat} {ds : List D}, capD is en = some ds →
    ∃ vs : List V, vs.length = is.length ∧ (∀ (i j : Nat), is[i]? = some j → ∃ v, vs[i]? = some v ∧ σ[j]? = some (some v)) ∧ OwnL (mkG K fn cls cl') (Zl Z (List.range en.length) fps) H 0 vs ds []
  | [], ds, h => by
    cases h
    exact ⟨[], rfl, fun i j e => by simp at e, .nil⟩
  | j :: is, ds, h => by
    unfold capD at h
    split at h
    · rename_i d e
      split at h
      · rename_i hn
        cases q : capD is en with
        | none => rw [q] at h; cases h
        | some ds' =>
          rw [q] at h; cases h
          obtain ⟨vs, h1, h2, h3⟩ := cap_own C q
          obtain ⟨v, e1, e2⟩ := C.rep j d e
          have hj : j ∈ List.range en.length := List.mem_range.mpr (List.getElem?_eq_some_iff.mp e).1
          refine ⟨v :: vs, by simp [h1], fun i j' e' => ?_, .cons (fp := []) (fps := []) ((own_regen d hn e2.freeze).monoZ fun a z => z.elim .inl fun m => .inr ⟨j, hj, m⟩) h3⟩
          cases i with
          | zero => cases e'; exact ⟨v, rfl, e1⟩
          | succ i => exact h2 i j' (by simpa using e')
      · cases h
    · cases h
/-- the lambdas of an expression, by their numbers and the slots that they capture -/
def NumsOk (X : Cx) (LT : Nat → Option Lam) : List (Lam × Pos) → List (Nat × List Nat) → Prop
  | [], [] => True
  | l :: ls, n :: ns => (LT n.1 = some l.1 ∧ CapOk X l.1 n.2 ∧ defaultsOf l.1.params X.env = ([], [])) ∧ NumsOk X LT ls ns
  | _, _ => False
theorem NumsOk.pre : ∀ {ls : List (Lam × Pos)} {ns : List (Nat × List Nat)}, NumsOk X LT ls ns → ∀ l ∈ ls, LamX.LamS X.env.scope l.1.scope ∧ defaultsOf l.1.params X.env = ([], [])
  | [], _, _, l, m => nomatch m
  | l :: ls, [], h, _, _ => h.elim
  | l :: ls, n :: ns, h, x, m => by
    rcases List.mem_cons.mp m with rfl | m
    · exact ⟨h.1.2.1.ls, h.1.2.2⟩
    · exact NumsOk.pre h.2 x m
theorem lams_own (I : Inv X pins σ H s) (C : Cfg (mkG K fn cls cl) B lk Z σ H Γ en fps) : ∀ {ls : List (Lam × Pos)} {fs : List Addr} {ns : List (Nat × List Nat)} {cs : List D}, LamsAt X pins H ls fs → NumsOk X LT ls ns → capsD ns en = some cs →
    OwnL (mkG K fn cls (ClT.of cl.T LT (nbase X s H))) (Zl Z (List.range en.length) fps) H 0 (fs.map V.ref) cs []
  | _, _, [], cs, .nil, _, h => by cases h; exact .nil
  | _, _, _ :: _, _, .nil, hn, _ => hn.elim
  | _, _, [], _, .cons _ _, hn, _ => hn.elim
  | _, _, n :: ns, cs, .cons (f := f) h1 h2, hn, h => by
    unfold capsD at h
    split at h
    · rename_i ds e
      cases q : capsD ns en with
      | none => rw [q] at h; cases h
      | some cs' =>
        rw [q] at h; cases h
        obtain ⟨vs, v1, v2, v3⟩ := cap_own (cl' := ClT.of cl.T LT (nbase X s H)) C e
        obtain ⟨pm, cd, ct, p1, p2⟩ := h1
        obtain ⟨g1, g2, g3, g4, _⟩ := I.pin _ (List.mem_append_right _ p1)
        refine .cons (fp := []) (fps := []) (.clo ⟨_, _, _, pm, cd, ct, hn.1.1, nb_get g1 g2 fun m => ?_, p2, cm_ok I hn.1.2.1 v1 v2⟩ v3) (lams_own I C h2 hn.2 q)
        rcases List.mem_cons.mp (I.stkSub _ m) with z | z
        · exact g3 z
        · exact g4 z
    · cases h
/-- a call with closures ahead: what it comes to -/
def mHand (F : List D → FRes) (ns : List (Nat × List Nat)) : ResL → Res
  | .ok ds en => match capsD ns en with
    | some cs => if noTagL ds then match F (.lst cs :: ds) with
        | .ok d _ => if scD d then .ok d en else .bad
        | _ => .bad
      else .bad
    | none => .bad
  | .exc c x => .exc c x
  | .bad => .bad
def mCallC (F : List D → FRes) (ns : List (Nat × List Nat)) (ms : AM) : EM := fun en => mHand F ns (ms en)
theorem zl_all (C : Cfg (mkG K fn cls cl) B lk Z σ H Γ en fps) {a : Addr} (z : Zl Z L fps a) : Zl Z (List.range en.length) fps a := by
  rcases z with z | ⟨i, _, m⟩
  · exact .inl z
  · obtain ⟨d, v, e, _⟩ := C.fin m
    exact .inr ⟨i, List.mem_range.mpr (List.getElem?_eq_some_iff.mp e).1, m⟩
/-- the list of lambdas, laid: the heap, the frame -/
theorem list_laid {ls : List (Lam × Pos)} {more : List (Addr × Obj)} {fs : List Addr} {H1 : Hp} (C : Cfg (mkG K fn cls cl) B lk Z σ H Γ en fps) (I0 : Inv X pins σ H s) {s1 : Shared} (hls : ls.length ≤ 1000) (I1 : Inv X (more ++ pins) σ H1 s1) (eN : LamX.ExtN H H1) (T1 : LamX.Tabs cl.T H1) (hA : LamsAt X (more ++ pins) H1 ls fs) :
    (fs.map Value.ref).length ≤ sizeLine ∧ ∃ (H3 : Hp) (p : Addr), p = s1.heap.objs.size ∧ H3 p = some (.lst (fs.map V.ref)) ∧ (∀ i, p ∉ fps i) ∧ Inv X (more ++ pins) σ H3 { s1 with heap := s1.heap.push { cls := .type "list", data := .seq (fs.map Value.ref).toArray } } ∧
      Cfg (mkG K fn cls cl) B lk (fun a => Z a ∨ a = p) σ H3 Γ en fps ∧ LamsAt X (more ++ pins) H3 ls fs := by
  have hlen : fs.length = ls.length := by
    clear eN T1 I1
    induction hA with
    | nil => rfl
    | cons _ _ ih => simp only [List.length_cons]; rw [ih (by simp at hls; omega)]
  have hz : (fs.map Value.ref).length ≤ sizeLine := by rw [List.length_map, hlen]; exact Nat.le_trans hls (by decide)
  have hb : ∀ b ps, X.H_0 b = some (.tbl ps) → ∃ q, (b, q) ∈ cl.T := fun b ps e => by
    obtain ⟨m, e2⟩ := I0.base.tbls b ps e
    exact C.tab.2 b _ e2
  have I2 := inv_unT I1 hb
  obtain ⟨t1, t2, t3⟩ := made_tab (T := cl.T) C.tab T1 eN
  have C2 := C.ext t2 t1
  have hp : unT cl.T H1 s1.heap.objs.size = none := I2.hok.fresh (Nat.le_refl _)
  have rv : Vals (fs.map V.ref) (fs.map Value.ref) := by
    clear hA hlen hz
    induction fs with
    | nil => exact .nil
    | cons f fs ih => exact .cons rfl ih
  have np : ∀ i, s1.heap.objs.size ∉ fps i := fun i m => by
    obtain ⟨o, e, _⟩ := C2.chg m
    rw [hp] at e; cases e
  refine ⟨hz, upd (unT cl.T H1) s1.heap.objs.size (.lst (fs.map V.ref)), s1.heap.objs.size, rfl, upd_same, np, I2.laid (t' := s1.toks) (fun b u e => Heap.get?_push_of_some _ e) (Nat.le_refl _) ⟨by rw [List.length_map] at hz ⊢; exact hz, fs.map Value.ref, 0, rv, Heap.get?_push_size _ rfl⟩, ?_, ?_⟩
  · refine (C2.grow hp).addZ (S := fun a => a = s1.heap.objs.size) (fun a e => ⟨.lst (fs.map V.ref), by rw [e]; exact upd_same, fun _ z => (nomatch z)⟩) (fun a e i => by rw [e]; exact np i) fun a e => by rw [e]; exact C2.none_of hp
  · exact hA.mono (fun _ h => h) fun a o e n => by
      have e2 := t3 a o e n
      rw [upd_ne (ne_of_none e2 hp)]; exact e2
variable {x : Str} {es : List Expr} {κs : List Nat} {sl : List (Option Nat)} {ms : AM} {ls : List (Lam × Pos)} {ns : List (Nat × List Nat)} {p0 lp pos : Pos} {c P : Addr}
/-- the other arguments, then the call -/
theorem hand_rest {more : List (Addr × Obj)} {fs : List Addr} {p : Addr} {Q : VK} (Fo : ∀ base : Heap, FnG X.prog X.w X.K X.mg base (L2.CX X.prog X.w) k fa fd ps (spI (mkG K fn cls (ClT.of cl.T LT base)) sg F)) (hgd : X.A.guards = some []) (hr : Room k X.A) (hb : KB X.K fd ps nu [] pm)
    (hpm : ∀ {α : Type} (l : List α), l.length = nu → permL pm l = l) (tk : Takes X W) (hN : NumsOk X LT ls ns) (ha : CI X (mkG K fn cls cl) W lk Γ es κs sl La Γ' ms) (hκ : ∀ k ∈ κs, k = 0) (hnu : κs.length + 1 = nu) (hks : sg.ks = List.replicate nu 0) (hio : ioShort sg.io 0 = true)
    (I3 : Inv X (more ++ pins) σ H s) (C3 : Cfg (mkG K fn cls cl) B lk Z σ H Γ en fps) (hp : H p = some (.lst (fs.map V.ref))) (np : ∀ i, p ∉ fps i) (hZ : Z p) (hA3 : LamsAt X (more ++ pins) H ls fs) (o : OutE (mkG K fn cls cl) B W lk κ [] Γ' σ Q (mHand F ns (ms en))) :
    wpAny (model X.prog X.w) X.A (spliced (backTo pos (starEach es X.env))) (fun us s' => X.K.In s'.heap ∧ wpAny (model X.prog X.w) X.A (call (.ref fa) (.ref p :: us) []) (EP X pins σ Q) X.xe s') X.xe s := by
  have key := ha.run pos (more ++ pins) s σ H (fun vs H4 => ∃ Z4 en4 fps4 fpl ds, ms en = .ok ds en4 ∧ Cfg (mkG K fn cls cl) (rb H Z lk fps B.pins) lk Z4 σ H4 Γ' en4 fps4 ∧ HeldK (mkG K fn cls cl) (rb H Z lk fps B.pins) La Z4 H4 fps4 κs vs ds fpl) I3
    ⟨rb H Z lk fps B.pins, _, en, fps, C3.rebase lk, by
      cases e : ms en with
      | bad => rw [e] at o; exact o.elim
      | exc c x => rw [e] at o; exact fun Cc dd H' y => o Cc dd H' (y.comp C3 fun _ h => h)
      | ok ds en4 => exact fun vs Z4 H4 fps4 fpl C4 h4 _ => ⟨Z4, en4, fps4, fpl, ds, rfl, C4, h4⟩⟩
  refine thn key fun us s4 ⟨vs, H4, I4, r, Z4, en4, fps4, fpl, ds, em, C4, h4⟩ => ⟨I4.kIn, ?_⟩
  rw [em] at o
  unfold mHand at o
  dsimp only at o
  split at o
  · rename_i cs ec
    split at o
    · rename_i hnt
      split at o
      · rename_i d ios eF
        split at o
        · rename_i hd
          have D4 := C3.comp (fun _ h => h) C4
          have oL := h4.heldL hκ
          have own := oL.own
          rw [own.z0] at own
          have hA4 := hA3.mono (fun _ h => h) C4.stayI
          have hp4 : H4 p = some (.lst (fs.map V.ref)) := (C4.keep _ _ hp fun ⟨i, _, m⟩ => np i m).eq fun _ z => nomatch z
          have first : Own (mkG K fn cls (ClT.of cl.T LT (nbase X s4 H4))) (Zl Z4 (List.range en4.length) fps4) H4 0 (.ref p) (.lst cs) [] := .lst (.inl (C4.zb _ hZ)) hp4 (lams_own I4 C4 hA4 hN ec)
          have rest : OwnL (mkG K fn cls (ClT.of cl.T LT (nbase X s4 H4))) (Zl Z4 (List.range en4.length) fps4) H4 0 vs ds [] := (ownL_regen ds hnt own).monoZ fun a z => zl_all C4 z
          have hlv : vs.length = κs.length := h4.own.len.1
          have res := clo_call (Q := Q) (us := .ref p :: us) (vs := .ref p :: vs) (ds := .lst cs :: ds) I4 D4 (Fo (nbase X s4 H4)) hgd hr hb hpm tk hks hio (.cons rfl r) (by rw [List.length_cons, hlv, hnu]) (.cons (fp := []) (fps := []) first rest) eF hd fun v Z' H' fps' C' sc => o v Z' H' fps' [] C' (.sc sc)
          refine thn res fun u s5 ⟨v, H5, I5, rv, q⟩ => ⟨v, H5, less_pins I5, rv, q⟩
        · exact o.elim
      · exact o.elim
    · exact o.elim
  · exact o.elim
/-- f([lambda: .., ..], e, ..) -/
theorem ei_callC (Fo : ∀ base : Heap, FnG X.prog X.w X.K X.mg base (L2.CX X.prog X.w) k fa fd ps (spI (mkG K fn cls (ClT.of cl.T LT base)) sg F)) (hgd : X.A.guards = some []) (hr : Room k X.A) (hg : Gl X x) (hm : X.mg x = some (.ref fa)) (hk : PySem.W.keepIn X.K (.ref fa) = true) (hb : KB X.K fd ps nu [] pm)
    (hpm : ∀ {α : Type} (l : List α), l.length = nu → permL pm l = l) (tk : Takes X W) (M : MkOk X cl.T c P) (hN : NumsOk X LT ls ns) (ha : CI X (mkG K fn cls cl) W lk Γ es κs sl La Γ' ms) (hκ : ∀ k ∈ κs, k = 0) (hnu : κs.length + 1 = nu) (hks : sg.ks = List.replicate nu 0) (hio : ioShort sg.io 0 = true) (hls : ls.length ≤ 1000)
    (hdb : (x == ("__debug__" : Str)) = false := by decide) (he : starEach (.List (ls.map lamX2) lp :: es) X.env = (false, eval (.List (ls.map lamX2) lp) X.env) :: starEach es X.env := by rfl) (hpl : (backTo pos (starEach es X.env)).any (·.1) = false := by rfl) :
    EI X (mkG K fn cls cl) W lk Γ (.Call (.Name x p0) (.List (ls.map lamX2) lp :: es) [] pos) κ [] Γ' (mCallC F ns ms) := by
  refine ⟨fun pins s σ H Q I ⟨B, Z, en, fps, C, o⟩ => ?_⟩
  refine wpAny_Call_Name_kw (ld_glob I hg hm ?_ hdb)
  refine PySem.W.callWith_K (h₀ := X.base) I.ok.mod.kin hk ?_ he hpl
  show wpAny _ _ (spliced ((false, eval (.List (ls.map lamX2) lp) X.env) :: backTo pos (starEach es X.env))) _ _ s
  refine Calls.spliced_cons (wpAny_List_spliced (lams_make M ls pins H s _ hN.pre I C.tab.1 fun fs more H1 s1 I1 eN T1 hA => ?_))
  obtain ⟨hz, H3, p, rfl, hp, np, I3, C3, hA3⟩ := list_laid C I hls I1 eN T1 hA
  exact ⟨hz, hand_rest Fo hgd hr hb hpm tk hN ha hκ hnu hks hio I3 C3 hp np (.inr rfl) hA3 o⟩
/-- y = [lambda: .., ..] ahead of: if not f(y, e, ..): .. (which is not so) -/
def mHandB (F : List D → FRes) (ns : List (Nat × List Nat)) (iy : Nat) (ms : AM) : SM := fun en => match mHand F ns (ms (en.set iy none)) with
  | .ok (.bl true) en' => .nx en'
  | .exc c x => .exc c x
  | _ => .bad
theorem ss_handB {y : Str} {iy : Nat} {py yp ap cp np ip : Pos} {body rest : List Stmt} {ro : RO} {Γ2 : List Nat} {m3 : SM} (hNd : X.N.Nodup) (hy : X.N[iy]? = some y) (hly : Loc X.env.scope y) (hvy : Vis X.env.scope y) (hiy : iy ∉ lk) (hro : (ro.io.getD iy none).isSome = false) (hfy : X.fn y = true ∨ X.env.scope.names.lookup y = some .local)
    (hdy : (y == ("__debug__" : Str)) = false) (hcy : (y == ("__classdict__" : Str)) = false) (hs : swapsWith (.List (ls.map lamX2) lp) (some (.Name y py)) ap.line X.env = pure false)
    (Fo : ∀ base : Heap, FnG X.prog X.w X.K X.mg base (L2.CX X.prog X.w) k fa fd ps (spI (mkG K fn cls (ClT.of cl.T LT base)) sg F)) (hgd : X.A.guards = some []) (hr : Room k X.A) (hg : Gl X x) (hm : X.mg x = some (.ref fa)) (hk : PySem.W.keepIn X.K (.ref fa) = true) (hb : KB X.K fd ps nu [] pm)
    (hpm : ∀ {α : Type} (l : List α), l.length = nu → permL pm l = l) (tk : Takes X W) (hW : WFree W) (M : MkOk X cl.T c P) (hN : NumsOk X LT ls ns) (ha : CI X (mkG K fn cls cl) W lk Γ es κs sl La Γ' ms) (hκ : ∀ k ∈ κs, k = 0) (hnu : κs.length + 1 = nu) (hks : sg.ks = List.replicate nu 0) (hio : ioShort sg.io 0 = true) (hls : ls.length ≤ 1000)
    (h3 : SsI X (mkG K fn cls cl) W lk ro Γ' rest Γ2 m3)
    (hdb : (x == ("__debug__" : Str)) = false := by decide) (he : starEach (.Name y yp :: es) X.env = (false, eval (.Name y yp) X.env) :: starEach es X.env := by rfl) (hpl : (backTo cp (starEach es X.env)).any (·.1) = false := by rfl) :
    SsI X (mkG K fn cls cl) W lk ro Γ (.Assign [.Name y py] (.List (ls.map lamX2) lp) ap :: .If (.UnaryOp .Not (.Call (.Name x p0) (.Name y yp :: es) [] cp) np) body [] ip :: rest) Γ2 (mSeq (mHandB F ns iy ms) m3) := by
  refine ⟨fun pins s σ H D I ⟨B, Z, en, fps, PI, C, o⟩ => ?_⟩
  refine wpAny_execs_cons (thn (Q := fun f s2 => f = Flow.next ∧ ∃ (p : Addr) (fs : List Addr) (more : List (Addr × Obj)) (H3 : Hp), Inv X (more ++ pins) (σ.set iy (some (.ref p))) H3 s2 ∧ H3 p = some (.lst (fs.map V.ref)) ∧ (∀ i, p ∉ fps i) ∧ Cfg (mkG K fn cls cl) B lk (fun a => Z a ∨ a = p) σ H3 Γ en fps ∧ LamsAt X (more ++ pins) H3 ls fs) ?_ fun f s2 ⟨ef, q⟩ => ?_)
  · refine wpAny_Assign_Name (wpAny_List_spliced (lams_make M ls pins H s _ hN.pre I C.tab.1 fun fs more H1 s1 I1 eN T1 hA => ?_)) hs
    obtain ⟨hz, H3, p, rfl, hp, np, I3, C3, hA3⟩ := list_laid C I hls I1 eN T1 hA
    exact ⟨hz, store_ok I3 hNd hy hly (v := .ref s1.heap.objs.size) rfl (fun s2 I4 => ⟨rfl, _, fs, more, H3, I4, hp, np, C3, hA3⟩) hfy⟩
  · subst ef
    obtain ⟨p, fs, more, H3, I4, hp, np, C3, hA3⟩ := q
    have hlen : iy < σ.length := by rw [I.len]; exact (List.getElem?_eq_some_iff.mp hy).1
    have C4 : Cfg (mkG K fn cls cl) B lk (fun a => Z a ∨ a = p) (σ.set iy (some (.ref p))) H3 Γ (en.set iy none) (fun j => if j = iy then [] else fps j) := (C3.drop iy hiy).reσ (by simp) (fun l d e => by
      by_cases hl : l = iy
      · subst hl
        exfalso
        by_cases hb : l < en.length
        · rw [List.getElem?_set_self hb] at e; cases e
        · rw [List.getElem?_eq_none (by simpa using hb)] at e; cases e
      · rw [List.getElem?_set_ne (Ne.symm hl)]) (fun p' m => by
        have n1 := pin_ne PI hro p' m
        rw [List.getElem?_set_ne (Ne.symm n1)]
        exact C.pin p' m)
    unfold mSeq mHandB at o
    have hcall : wpAny (model X.prog X.w) X.A (eval (.Call (.Name x p0) (.Name y yp :: es) [] cp) X.env) (EP X pins (σ.set iy (some (.ref p))) (fun v H' => v = .bl true ∧ tS (mkG K fn cls cl) W lk ro Γ' Γ2 m3 D (σ.set iy (some (.ref p))) H')) X.xe s2 := by
      refine wpAny_Call_Name_kw (ld_glob I4 hg hm ?_ hdb)
      refine PySem.W.callWith_K (h₀ := X.base) I4.ok.mod.kin hk ?_ he hpl
      show wpAny _ _ (spliced ((false, eval (.Name y yp) X.env) :: backTo cp (starEach es X.env))) _ _ s2
      refine Calls.spliced_cons (thn ((pe_var (pos := yp) hy hvy hdy hcy).run _ s2 _ H3 (fun v H1 => v = .ref p ∧ H1 = H3) I4 ⟨.ref p, List.getElem?_set_self hlen, rfl, rfl⟩) fun u s3 ⟨v, H1, I5, r1, q1, q2⟩ => ?_)
      subst q1 q2
      obtain rfl : u = Value.ref p := r1
      refine hand_rest (κ := 0) Fo hgd hr hb hpm tk hN ha hκ hnu hks hio I5 C4 hp (fun i m => ?_) (.inr rfl) hA3 ?_
      · split at m
        · cases m
        · exact np i m
      · cases em : mHand F ns (ms (en.set iy none)) with
        | bad => rw [em] at o; exact o.elim
        | exc c x => rw [em] at o; exact fun Cc dd H' y => o Cc dd _ H' y
        | ok d en5 =>
          rw [em] at o
          intro v Z' H' fps' fp C' h'
          match d, o, h' with
          | .bl true, o, h' =>
            have h'' := h'.own
            cases h''
            exact ⟨rfl, B, Z', en5, fps', PI, C', o⟩
          | .bl false, o, _ => exact o.elim
          | .non, o, _ => exact o.elim
          | .int _, o, _ => exact o.elim
          | .str _, o, _ => exact o.elim
          | .tup _, o, _ => exact o.elim
          | .lst _, o, _ => exact o.elim
          | .edict, o, _ => exact o.elim
          | .fn _, o, _ => exact o.elim
          | .exc _ _, o, _ => exact o.elim
          | .scr _, o, _ => exact o.elim
          | .clo _ _, o, _ => exact o.elim
          | .tl _ _, o, _ => exact o.elim
    refine wpAny_execs_cons (wpAny_If (thn (Q := fun b t => b = false ∧ ∃ H5, Inv X pins (σ.set iy (some (.ref p))) H5 t ∧ tS (mkG K fn cls cl) W lk ro Γ' Γ2 m3 D (σ.set iy (some (.ref p))) H5) (isTrue_not (isTrue_plain (thn hcall fun v s3 ⟨w, H5, I6, r1, q1, q2⟩ => by
      subst q1
      cases r1
      exact wpAny_truthy_bool ⟨rfl, H5, I6, q2⟩) rfl)) fun d s4 ⟨e1, H5, I6, q⟩ => ?_))
    subst e1
    exact wpAny_execs_nil (h3.run pins s4 _ H5 D I6 q)
end
/-! ### the way to a lambda in a def's text -/
def noE : Expr := .List [] ⟨0, 0, 0, 0⟩
def pSt (l : List Stmt) (i : Nat) : Stmt := l.getD i (.Pass ⟨0, 0, 0, 0⟩)
/-- a for's body; an if's -/
def pFor : Stmt → List Stmt
  | .For _ _ b _ _ => b
  | .If _ b _ _ => b
  | _ => []
/-- the value of an assignment, of a return; an if's test -/
def pVal : Stmt → Expr
  | .Assign _ e _ => e
  | .Return (some e) _ => e
  | .If c _ _ _ => c
  | _ => noE
/-- a list's items; a call's arguments; what is compared; what is not -/
def pEl : Expr → List Expr
  | .List es _ => es
  | .Call _ es _ _ => es
  | .Compare a _ es _ => a :: es
  | .UnaryOp _ e _ => [e]
  | .BoolOp _ es _ => es
  | .ListComp _ [⟨_, _, ifs, _⟩] _ _ => ifs
  | _ => []
def pAt (e : Expr) (i : Nat) : Expr := (pEl e).getD i noE
def pLam (cap : List Str) : Expr → Lam × Pos
  | .Lambda a b s p => (⟨a, b, s, cap⟩, p)
  | e => (⟨{ posonlyargs := [], args := [], vararg := none, kwonlyargs := [], kw_defaults := [], kwarg := none, defaults := [] }, e, { kind := .function, names := [], isGenerator := false, isCoroutine := false, more := [] }, cap⟩, ⟨0, 0, 0, 0⟩)
end Im
/-! sorted(xs): ints; pairs of ints. -/
namespace Im
open PySem PySem.Spec PyProof.Rows L2
/-- put in, in order -/
def insB {α : Type} (le : α → α → Bool) (x : α) : List α → List α
  | [] => [x]
  | y :: r => if le x y then x :: y :: r else y :: insB le x r
def srtB {α : Type} (le : α → α → Bool) : List α → List α
  | [] => []
  | x :: r => insB le x (srtB le r)
section
variable {α : Type} {le : α → α → Bool}
theorem insB_perm (x : α) : ∀ l : List α, (insB le x l).Perm (x :: l)
  | [] => .refl _
  | y :: r => by
    unfold insB
    split
    · exact .refl _
    · exact ((insB_perm x r).cons y).trans (.swap x y r)
theorem srtB_perm : ∀ l : List α, (srtB le l).Perm l
  | [] => .refl _
  | x :: r => (insB_perm x _).trans ((srtB_perm r).cons x)
theorem insB_srt (tot : ∀ a b, le a b = false → le b a = true) (tr : ∀ a b c, le a b = true → le b c = true → le a c = true) (x : α) : ∀ l : List α, l.Pairwise (fun a b => le a b = true) → (insB le x l).Pairwise (fun a b => le a b = true)
  | [], _ => List.pairwise_singleton _ _
  | y :: r, h => by
    obtain ⟨h1, h2⟩ := List.pairwise_cons.mp h
    unfold insB
    split
    · rename_i e
      refine List.pairwise_cons.mpr ⟨fun z hz => ?_, h⟩
      rcases List.mem_cons.mp hz with rfl | hz
      · exact e
      · exact tr _ _ _ e (h1 z hz)
    · rename_i e
      refine List.pairwise_cons.mpr ⟨fun z hz => ?_, insB_srt tot tr x r h2⟩
      rcases List.mem_cons.mp ((insB_perm x r).mem_iff.mp hz) with rfl | hz
      · exact tot _ _ (by simpa using e)
      · exact h1 z hz
theorem srtB_srt (tot : ∀ a b, le a b = false → le b a = true) (tr : ∀ a b c, le a b = true → le b c = true → le a c = true) : ∀ l : List α, (srtB le l).Pairwise (fun a b => le a b = true)
  | [] => .nil
  | x :: r => insB_srt tot tr x _ (srtB_srt tot tr r)
/-- the one sorted order -/
theorem srtB_one (tot : ∀ a b, le a b = false → le b a = true) (tr : ∀ a b c, le a b = true → le b c = true → le a c = true) (anti : ∀ a b, le a b = true → le b a = true → a = b) {l m : List α} (hp : m.Perm l) (hs : m.Pairwise (fun a b => le a b = true)) : m = srtB le l :=
  List.Perm.eq_of_pairwise (fun a b _ _ h1 h2 => anti a b h1 h2) hs (srtB_srt tot tr l) (hp.trans (srtB_perm l).symm)
end
def leI (a b : Int) : Bool := decide (a ≤ b)
def leP (a b : Int × Int) : Bool := !SrtO.lexB b a
theorem srtI_one {l m : List Int} (hp : m.Perm l) (hs : m.Pairwise (· ≤ ·)) : m = srtB leI l := by
  refine srtB_one (fun a b h => ?_) (fun a b c h1 h2 => ?_) (fun a b h1 h2 => ?_) hp (hs.imp fun h => decide_eq_true h)
  all_goals simp only [leI, decide_eq_true_eq, decide_eq_false_iff_not] at *
  all_goals omega
theorem leP_iff {a b : Int × Int} : leP a b = true ↔ a.1 < b.1 ∨ (a.1 = b.1 ∧ a.2 ≤ b.2) := by
  unfold leP
  rw [Bool.not_eq_true', SrtO.lexB_no]
  omega
theorem srtP_one {l m : List (Int × Int)} (hp : m.Perm l) (hs : m.Pairwise fun a b => leP a b = true) : m = srtB leP l := by
  refine srtB_one (fun a b h => ?_) (fun a b c h1 h2 => ?_) (fun a b h1 h2 => ?_) hp hs
  · have h' : ¬ leP a b = true := by rw [h]; decide
    rw [leP_iff] at h' ⊢
    omega
  · rw [leP_iff] at *
    omega
  · rw [leP_iff] at *
    exact Prod.ext (by omega) (by omega)
def prsO : List D → Option (List (Int × Int))
  | [] => some []
  | .tup [.int a, .int b] :: r => (prsO r).map ((a, b) :: ·)
  | _ => none
def prD (p : Int × Int) : D := .tup [.int p.1, .int p.2]
/-- sorted(x) -/
def dSorted : D → Option D
  | .lst xs => (intsD xs).map fun ns => .lst ((srtB leI ns).map D.int)
  | _ => none
def dSortedP : D → Option D
  | .lst xs => (prsO xs).map fun ps => .lst ((srtB leP ps).map prD)
  | _ => none
section
variable {G : GI} {B : Bs} {W : WX} {lk L : List Nat} {Z Z' : Addr → Prop} {H H' : Hp} {Γ Γ' : List Nat} {κ : Nat} {X : Cx} {m : EM} {a : Expr} {pos : Pos}
theorem own_ints : ∀ ns : List Int, OwnL G Z H 0 (ns.map V.int) (ns.map D.int) []
  | [] => .nil
  | n :: ns => .cons (fp := []) (fps := []) .int (own_ints ns)
theorem ei_sorted {p : Pos} (hK : G.K = X.K) (hg : Gl X "sorted") (hm : X.mg "sorted" = none) (hv : bootBuiltins "sorted" = some (.builtin "sorted")) (ha : OI X G W lk Γ a (.v L) Γ' m) (he : starEach (a :: []) X.env = (false, eval a X.env) :: starEach [] X.env := by rfl) :
    EI X G W lk Γ (.Call (.Name "sorted" p) [a] [] pos) 1 [] Γ' (m1 dSorted m) :=
  PE.imp (pe_callB cr_sortedI hg hm hv (pa_cons ha pa_nil he) (by decide) (by decide) he rfl) fun σ H Q ⟨B, Z, en, fps, C, o⟩ => ⟨B, Z, en, fps, C, out1 (md := .v L) (r := fun v H2 => rSortedI X.K [v] H2 Q) o fun d d' v Z2 H2 fps2 en2 ef C2 h2 o => by
    unfold dSorted at ef
    split at ef
    · rename_i xs
      rw [Option.map_eq_some_iff] at ef
      obtain ⟨ns, e1, rfl⟩ := ef
      obtain ⟨a, vs, rfl, e2, o1⟩ := Vw.lst h2
      have ev := intsD_v o1 e1
      subst ev
      refine ⟨a, ns, rfl, .inl (.inl e2), fun ns' p hp hs hn => ?_⟩
      rw [srtI_one hp hs]
      exact o _ _ _ _ _ (C2.grow hn) (fresh_lst C2 (own_ints _) hn)
    · cases ef⟩
/-- the pair at an address -/
def kOf (H : Hp) : V → Int × Int
  | .ref t => match H t with
    | some (.tup [.int a, .int b]) => (a, b)
    | _ => (0, 0)
  | _ => (0, 0)
theorem prs_own : ∀ {xs : List D} {vs : List V} {ps : List (Int × Int)} {fp : List Addr}, OwnL G Z H 0 vs xs fp → prsO xs = some ps → vs.map (kOf H) = ps ∧ ∀ v ∈ vs, ∃ t, v = .ref t ∧ H t = some (.tup [.int (kOf H v).1, .int (kOf H v).2])
  | [], vs, ps, fp, h, e => by cases e; cases h; exact ⟨rfl, fun _ m => nomatch m⟩
  | x :: r, vs, ps, fp, h, e => by
    unfold prsO at e
    split at e
    · cases ‹_ = []›
    · rename_i a b r' ex
      cases ex
      cases q : prsO r with
      | none => rw [q] at e; cases e
      | some ps' =>
        rw [q] at e; cases e
        cases h with
        | cons h1 h2 =>
          obtain ⟨q1, q2⟩ := prs_own h2 q
          cases h1 with
          | tup e3 h3 =>
            rename_i t us
            cases h3 with
            | cons g1 g2 =>
              cases g1
              cases g2 with
              | cons g3 g4 =>
                cases g3
                cases g4
                have ek : kOf H (.ref t) = (a, b) := by
                  unfold kOf
                  dsimp only
                  rw [e3]
                refine ⟨by rw [List.map_cons, ek, q1], fun v m => ?_⟩
                rcases List.mem_cons.mp m with rfl | m
                · exact ⟨t, rfl, by rw [ek]; exact e3⟩
                · exact q2 v m
    · cases e
theorem own_prs : ∀ {ys : List V}, (∀ v ∈ ys, ∃ t, v = .ref t ∧ H t = some (.tup [.int (kOf H v).1, .int (kOf H v).2])) → OwnL G Z H 0 ys ((ys.map (kOf H)).map prD) []
  | [], _ => .nil
  | y :: ys, h => by
    obtain ⟨t, e, ht⟩ := h y List.mem_cons_self
    refine .cons (fp := []) (fps := []) ?_ (own_prs fun v m => h v (List.mem_cons_of_mem _ m))
    have : Own G Z H 0 (.ref t) (prD (kOf H y)) [] := .tup ht (.cons (fp := []) (fps := []) .int (.cons (fp := []) (fps := []) .int .nil))
    rw [e] at this ⊢
    exact this
theorem ei_sortedP {p : Pos} (hK : G.K = X.K) (hg : Gl X "sorted") (hm : X.mg "sorted" = none) (hv : bootBuiltins "sorted" = some (.builtin "sorted")) (ha : OI X G W lk Γ a (.v L) Γ' m) (he : starEach (a :: []) X.env = (false, eval a X.env) :: starEach [] X.env := by rfl) :
    EI X G W lk Γ (.Call (.Name "sorted" p) [a] [] pos) 1 [] Γ' (m1 dSortedP m) :=
  PE.imp (pe_callB cr_sortedPO hg hm hv (pa_cons ha pa_nil he) (by decide) (by decide) he rfl) fun σ H Q ⟨B, Z, en, fps, C, o⟩ => ⟨B, Z, en, fps, C, out1 (md := .v L) (r := fun v H2 => rSortedPO X.K [v] H2 Q) o fun d d' v Z2 H2 fps2 en2 ef C2 h2 o => by
    unfold dSortedP at ef
    split at ef
    · rename_i xs
      rw [Option.map_eq_some_iff] at ef
      obtain ⟨ps, e1, rfl⟩ := ef
      obtain ⟨a, vs, rfl, e2, o1⟩ := Vw.lst h2
      obtain ⟨q1, q2⟩ := prs_own o1 e1
      refine ⟨a, vs, kOf H2, rfl, .inl (.inl e2), q2, fun ys p hs hb hn => ?_⟩
      have hy : ys.map (kOf H2) = srtB leP ps := by
        refine srtP_one (by rw [← q1]; exact hb.perm.map _) (List.pairwise_map.mpr (hs.imp fun h => ?_))
        unfold leP
        rw [Bool.not_eq_true']
        exact h
      rw [← hy] at o
      exact o _ _ _ _ _ (C2.grow hn) (fresh_lst C2 (own_prs fun v m => q2 v (hb.perm.mem_iff.mp m)) hn)
    · cases ef⟩
end
end Im
/-! tuple(xs), t + u of tuples, {}. -/
namespace Im
open PySem PySem.Spec PyProof.Rows L2
section
variable {G : GI} {B : Bs} {W : WX} {lk L L1 L2' : List Nat} {Z Z' : Addr → Prop} {H H' : Hp} {Γ Γ' Γ1 Γ2 : List Nat} {κ : Nat} {X : Cx} {m ma mb : EM} {a b : Expr} {pos : Pos}
def dTupleOf : D → Option D
  | .lst xs => some (.tup xs)
  | _ => none
theorem ei_tuple {p : Pos} (hg : Gl X "tuple") (hm : X.mg "tuple" = none) (hv : bootBuiltins "tuple" = some (.type "tuple")) (ha : OI X G W lk Γ a (.v L) Γ' m) (he : starEach (a :: []) X.env = (false, eval a X.env) :: starEach [] X.env := by rfl) :
    EI X G W lk Γ (.Call (.Name "tuple" p) [a] [] pos) 0 [] Γ' (m1 dTupleOf m) :=
  PE.imp (pe_callTy call_tuple_of hg hm hv (pa_cons ha pa_nil he) (by decide) (by decide) he rfl) fun σ H Q ⟨B, Z, en, fps, C, o⟩ => ⟨B, Z, en, fps, C, out1 (md := .v L) o fun d d' v Z2 H2 fps2 en2 ef C2 h2 o => by
    unfold dTupleOf at ef
    split at ef
    · cases ef
      obtain ⟨a, vs, rfl, e1, o1⟩ := Vw.lst h2
      exact ⟨a, vs, rfl, .inl ⟨.inl (.inl e1), fun l hl => o _ _ _ _ _ (C2.grow hl) (fresh_tup C2 o1 hl)⟩⟩
    · cases ef⟩
def dCatT : D → D → Option D
  | .tup xs, .tup ys => if xs.length + ys.length ≤ lim then some (.tup (xs ++ ys)) else none
  | _, _ => none
theorem ei_catT (ha : OI X G W lk Γ a (.e 0 []) Γ1 ma) (hb : OI X G W lk Γ1 b (.e 0 []) Γ2 mb) : EI X G W lk Γ (.BinOp a .Add b pos) 0 [] Γ2 (mB dCatT ma mb) :=
  PE.imp (pe_op op_catA ha hb) fun σ H Q ⟨B, Z, en, fps, C, o⟩ => run2 (mda := .e 0 []) (mdb := .e 0 []) C (mB_cases o fun d1 d2 d v1 v2 Z2 H2 fps2 en2 ef C2 ⟨fp1, h1⟩ ⟨fp2, h2⟩ o => by
    unfold dCatT at ef
    split at ef
    · rename_i xs ys
      split at ef
      · rename_i hz
        cases ef
        have g1 := h1.own
        have g2 := h2.own
        rw [g1.z0] at g1
        rw [g2.z0] at g2
        obtain ⟨p, vs, rfl, e1, o1⟩ := own_tup g1
        obtain ⟨q, ws, rfl, e2, o2⟩ := own_tup g2
        have o1 := o1.monoZ fun a z => Zl_nil.mp z
        have o2 := o2.monoZ fun a z => Zl_nil.mp z
        refine ⟨p, q, vs, ws, rfl, rfl, .inl (.inl e1), .inl (.inl e2), by rw [o1.len, o2.len]; exact lim_ok hz, fun z => ?_, fun _ z => ?_, fun _ _ r hr => ?_⟩
        · subst z
          cases o1
          exact o _ _ _ _ _ C2 (held_frz g2)
        · subst z
          cases o2
          rw [List.append_nil] at o
          exact o _ _ _ _ _ C2 (held_frz g1)
        · exact o _ _ _ _ _ (C2.grow hr) (fresh_tup C2 (o1.append o2) hr)
      · cases ef
    · cases ef)
/-- {} -/
theorem ei_edict : EI X G W lk Γ (.Dict [] [] pos) 1 [] Γ (mC .edict) := PE.imp pe_dnewK fun σ H Q ⟨B, Z, en, fps, C, o⟩ => by
  intro p hp
  have C2 := C.grow (o := .dK []) hp
  refine o _ _ _ _ [p] C2 ⟨.edS upd_same, by simp, fun a m z => ?_, fun a m i q => ?_, fun a m => ?_⟩
  all_goals rw [List.mem_singleton.mp m] at *
  · obtain ⟨u, q, _⟩ := C.zt _ z
    rw [hp] at q; cases q
  · obtain ⟨u, e, _⟩ := C.chg q
    rw [hp] at e; cases e
  · exact C.none_of hp
/-- list(range(i, j)), list(range(j)) -/
def rgL (i j : Int) : List D := (List.range (j - i).toNat).map fun n => .int (i + (n : Nat))
def dRgL : D → D → Option D
  | .int i, .int j => if 0 ≤ i ∧ i ≤ 16777216 ∧ 0 ≤ j ∧ j ≤ 16777216 then some (.lst (rgL i j)) else none
  | _, _ => none
def dRgL1 : D → Option D
  | .int j => if 0 ≤ j ∧ j ≤ 16777216 then some (.lst (rgL 0 j)) else none
  | _ => none
theorem ownL_rg (i : Int) : ∀ l : List Nat, OwnL G Z H 0 (l.map fun n => V.int (i + (n : Nat))) (l.map fun n => D.int (i + (n : Nat))) []
  | [] => .nil
  | n :: l => .cons (fp := []) (fps := []) .int (ownL_rg i l)
theorem ei_listRg2 {md1 md2 : Md} {p p2 pos2 : Pos} (hc : X.calm = true) (hg : Gl X "list") (hm : X.mg "list" = none) (hg2 : Gl X "range") (hm2 : X.mg "range" = none) (ha : OI X G W lk Γ a md1 Γ1 ma) (hb : OI X G W (md1.L ++ lk) Γ1 b md2 Γ2 mb)
    (na : starEach [a, b] X.env = (false, eval a X.env) :: starEach [b] X.env := by rfl) (nb : starEach [b] X.env = (false, eval b X.env) :: starEach [] X.env := by rfl) (hp : (backTo pos2 (starEach [b] X.env)).any (·.1) = false := by rfl)
    (ne : starEach [.Call (.Name "range" p2) [a, b] [] pos2] X.env = (false, eval (.Call (.Name "range" p2) [a, b] [] pos2) X.env) :: starEach [] X.env := by rfl) :
    EI X G W lk Γ (.Call (.Name "list" p) [.Call (.Name "range" p2) [a, b] [] pos2] [] pos) 1 [] Γ2 (mB dRgL ma mb) :=
  PE.imp (pe_listRg hc hg hm (prg_2 hg2 hm2 ha hb na nb hp) ne) fun σ H Q ⟨B, Z, en, fps, C, o⟩ => run2 (R := fun x y H2 => ∃ i j, x = .int i ∧ y = .int j ∧ RgOk i j ∧ ∀ q, H2 q = none → Q (.ref q) (upd H2 q (.lst (rgV i j)))) C (mB_cases o fun d1 d2 d v1 v2 Z2 H2 fps2 en2 ef C2 h1 h2 o => by
    unfold dRgL at ef
    split at ef
    · split at ef
      · rename_i hz
        cases ef
        obtain ⟨_, _, _, o1⟩ := Md.any h1
        obtain ⟨_, _, _, o2⟩ := Md.any h2
        exact ⟨_, _, own_int o1, own_int o2, RgOk.of_le hz.1 hz.2.2.2 hz.2.1 hz.2.2.1, fun q hq => o _ _ _ _ _ (C2.grow hq) (fresh_lst C2 (ownL_rg _ _) hq)⟩
      · cases ef
    · cases ef)
theorem ei_listRg1 {md : Md} {p p2 pos2 : Pos} (hc : X.calm = true) (hg : Gl X "list") (hm : X.mg "list" = none) (hg2 : Gl X "range") (hm2 : X.mg "range" = none) (ha : OI X G W lk Γ a md Γ1 ma)
    (na : starEach [a] X.env = (false, eval a X.env) :: starEach [] X.env := by rfl)
    (ne : starEach [.Call (.Name "range" p2) [a] [] pos2] X.env = (false, eval (.Call (.Name "range" p2) [a] [] pos2) X.env) :: starEach [] X.env := by rfl) :
    EI X G W lk Γ (.Call (.Name "list" p) [.Call (.Name "range" p2) [a] [] pos2] [] pos) 1 [] Γ1 (m1 dRgL1 ma) :=
  PE.imp (pe_listRg hc hg hm (prg_1 hg2 hm2 ha na) ne) fun σ H Q ⟨B, Z, en, fps, C, o⟩ => ⟨B, Z, en, fps, C, out1 (md := md) (r := fun x H2 => ∃ n, x = .int n ∧ RgOk 0 n ∧ ∀ q, H2 q = none → Q (.ref q) (upd H2 q (.lst (rgV 0 n)))) o fun d d' v Z2 H2 fps2 en2 ef C2 h1 o => by
    unfold dRgL1 at ef
    split at ef
    · split at ef
      · rename_i hz
        cases ef
        obtain ⟨_, _, _, o1⟩ := Md.any h1
        exact ⟨_, own_int o1, RgOk.of_le (by decide) hz.2 (by decide) hz.1, fun q hq => o _ _ _ _ _ (C2.grow hq) (fresh_lst C2 (ownL_rg _ _) hq)⟩
      · cases ef
    · cases ef⟩
end
end Im
/-! [x, {}] == [y, {}]. -/
namespace Im
open PySem PySem.Spec PyProof.Rows L2
section
variable {X : Cx} {pins : List (Addr × Obj)} {σ : St} {H : Hp} {s : Shared}
theorem ed_any {P P' : Program} {w w' : World} {h : Heap} {a : Addr} (d : h.DictOf (mixKind P w) a []) : h.DictOf (mixKind P' w') a [] := by
  obtain ⟨o, es, ep, h1, h2, h3, h4, h5, h6⟩ := d
  have e : es.toList = [] := by cases q : es.toList with
    | nil => rfl
    | cons x l => rw [q] at h5; cases h5
  have e2 : es = #[] := by rw [← Array.toList_eq_nil_iff]; exact e
  subst e2
  refine ⟨o, #[], ep, h1, h2, h3, ?_, .nil, h6⟩
  intro x hx
  simp at hx
/-- two empty dicts -/
theorem ed_eq {a b : Addr} {A : Around} (I : Inv X pins σ H s) (ha : H a = some (.dK [])) (hb : H b = some (.dK [])) (hu : A.units < cLine) : SeqAt.EqAt A s (.ref a) (.ref b) true := by
  by_cases e : a = b
  · subst e; exact SeqAt.EqAt.same _
  · obtain ⟨_, y1, v1, r1, d1⟩ := (show ObjOk X.prog X.w H s.heap a (.dK []) from I.hok a _ ha)
    obtain ⟨_, y2, v2, r2, d2⟩ := (show ObjOk X.prog X.w H s.heap b (.dK []) from I.hok b _ hb)
    cases r1
    cases r2
    refine SeqAt.EqAt.of_refs e fun prog w E Q hq => ?_
    exact PySem.W.keq_eq (knd := mixKind prog w) (r := true) y1 y2 (ed_any d1) (ed_any d2) hu (fun _ => .nil) hq
/-- [x, {}] == [y, {}] -/
def rEqE (K : PySem.W.Frag) : R2 := fun x y H Q => ∃ (a b : Addr) (x1 y1 : V) (x2 y2 : Addr) (d e : PyData), x = .ref a ∧ y = .ref b ∧ SqL K H a [x1, .ref x2] ∧ SqL K H b [y1, .ref y2] ∧ Dp K H x1 d ∧ Dp K H y1 e ∧ SeqAt.shaped d = true ∧ SeqAt.shaped e = true ∧ H x2 = some (.dK []) ∧ H y2 = some (.dK []) ∧ Q (.bl (PyData.eqv d e)) H
theorem op_eqE (hu : X.A.units < cLine) (hu1 : X.A.in1.units + 64 < cLine) : OpR X (compareOp .Eq) (rEqE X.K) := by
  intro pins s σ H x y v u Q I rx ry h
  obtain ⟨a, b, x1, y1, x2, y2, d, e, rfl, rfl, h1, h2, h3, h4, h5, h6, h7, h8, q⟩ := h
  obtain rfl : v = Value.ref a := rx
  obtain rfl : u = Value.ref b := ry
  obtain ⟨i1, v1, l1, _⟩ := I.list h1
  obtain ⟨i2, v2, l2, _⟩ := I.list h2
  obtain ⟨w1, w2, rfl, r1, r2⟩ := vals2 v1
  obtain ⟨w3, w4, rfl, r3, r4⟩ := vals2 v2
  obtain rfl : w2 = Value.ref x2 := r2
  obtain rfl : w4 = Value.ref y2 := r4
  obtain ⟨as, g1⟩ := Dp.reads I d x1 w1 h3 r1
  obtain ⟨bs, g2⟩ := Dp.reads I e y1 w3 h4 r3
  refine SeqAt.eq_listAt (e := fun j => if j = 0 then PyData.eqv d e else true) l1.isList l2.isList rfl hu (fun j j1 j2 => ?_) ?_
  · match j, j1 with
    | 0, _ => exact PySem.W.keq_at g1 g2 h5 h6 hu1
    | 1, _ => exact ed_eq I h7 h8 (by omega)
    | j + 2, j1 => exact absurd j1 (by simp)
  · refine ⟨.bl (PyData.eqv d e), H, I, ?_, q⟩
    have z : ((List.range ([w1, Value.ref x2] : List Value).toArray.size).all fun j => if j = 0 then PyData.eqv d e else true) = PyData.eqv d e := by
      show ((List.range 2).all _) = _
      simp [List.range_succ]
    rw [z]
    rfl
def rEqX (K : PySem.W.Frag) : R2 := fun x y H Q => rEqD K x y H Q ∨ rEqE K x y H Q
theorem op_eqX (hu : X.A.units + 65 < cLine) : OpR X (compareOp .Eq) (rEqX X.K) := fun pins s σ H x y v u Q I rx ry h => by
  rcases h with h | h
  · exact op_eqD (by omega) pins s σ H x y v u Q I rx ry h
  · exact op_eqE (by omega) (by show X.A.units + 1 + 64 < cLine; omega) pins s σ H x y v u Q I rx ry h
def eqE : D → D → Option D
  | .lst [x, .edict], .lst [y, .edict] => match toP x, toP y with
    | some p, some q => if SeqAt.shaped p && SeqAt.shaped q then some (.bl (PyData.eqv p q)) else none
    | _, _ => none
  | d1, d2 => eqD false d1 d2
theorem own_ed2 {G : GI} {Z : Addr → Prop} (hK : G.K = X.K) {k : Nat} {v : V} {x : D} {fp : List Addr} {p : PyData} (h : Own G Z H k v (.lst [x, .edict]) fp) (e : toP x = some p) : ∃ (a : Addr) (x1 : V) (x2 : Addr), v = .ref a ∧ SqL X.K H a [x1, .ref x2] ∧ Dp X.K H x1 p ∧ H x2 = some (.dK []) := by
  have key : ∀ {k : Nat} {vs : List V} {fp : List Addr}, OwnL G Z H k vs [x, .edict] fp → ∃ (x1 : V) (x2 : Addr), vs = [x1, .ref x2] ∧ Dp X.K H x1 p ∧ H x2 = some (.dK []) := fun h => by
    cases h with
    | cons h1 h2 =>
      cases h2 with
      | cons h3 h4 =>
        cases h4
        cases h3 with
        | ed0 z q => exact ⟨_, _, rfl, own_dp hK h1 p e, q⟩
        | edS q => exact ⟨_, _, rfl, own_dp hK h1 p e, q⟩
  cases h with
  | lst z q hl =>
    obtain ⟨x1, x2, rfl, g1, g2⟩ := key hl
    exact ⟨_, x1, x2, rfl, .inl (.inl q), g1, g2⟩
  | own q hl =>
    obtain ⟨x1, x2, rfl, g1, g2⟩ := key hl
    exact ⟨_, x1, x2, rfl, .inl (.inl q), g1, g2⟩
theorem lk_eqE {G : GI} (hK : G.K = X.K) : Lk2 G (rEqX X.K) eqE := by
  intro H v1 v2 d1 d2 d Q o1 o2 e q
  unfold eqE at e
  split at e
  · rename_i x y
    obtain ⟨_, _, _, o1⟩ := o1
    obtain ⟨_, _, _, o2⟩ := o2
    split at e
    · rename_i p r e1 e2
      split at e
      · rename_i hs
        rw [Bool.and_eq_true] at hs
        cases e
        obtain ⟨a, x1, x2, rfl, g1, g2, g3⟩ := own_ed2 hK o1 e1
        obtain ⟨b, y1, y2, rfl, g4, g5, g6⟩ := own_ed2 hK o2 e2
        exact .inr ⟨a, b, x1, y1, x2, y2, p, r, rfl, rfl, g1, g4, g2, g5, hs.1, hs.2, g3, g6, q _ .bl⟩
      · cases e
    · cases e
  · exact .inl (lk_eq hK H v1 v2 _ _ d Q o1 o2 e q)
theorem hu65 {k : Nat} {A : Around} (hr : Room k A) : A.units + 65 < cLine := by have := hr.un; omega
end
end Im
/-! `_law_marked`, in plain words. -/
namespace Im
open PySem PySem.Spec PyProof.Rows L2
def isMk : Option D → Bool
  | some (.str x) => x == ("marked" : Str)
  | _ => false
mutual
def markD : D → Bool × D
  | .lst xs => if isMk xs.getLast? then (false, .lst xs) else ((markL xs).1, .lst ((markL xs).2 ++ [.str "marked"]))
  | .tup xs => ((markL xs).1, .tup (markL xs).2)
  | d => (true, d)
def markL : List D → Bool × List D
  | [] => (true, [])
  | d :: ds => ((markD d).1 && (markL ds).1, (markD d).2 :: (markL ds).2)
end
def markF : List D → FRes
  | [d] => .ok (.bl (markD d).1) [some (markD d).2]
  | _ => .bad
/-- repr of what holds an empty dict last -/
def dReprE : D → Option D
  | .lst [x, .edict] => match toP x with
    | some p => if p.showable && decide (p.depth ≤ 50) && decide ((PyData.list [p, .dict []]).shown.length ≤ lim) then some (.str (PyData.list [p, .dict []]).shown) else none
    | none => none
  | d => dRepr d
end Im
/-! An argument by reference, told first, moved last. -/
namespace Im
open PySem PySem.Spec PyProof.Rows L2
section
variable {G : GI} {X : Cx} {W : WX} {lk La : List Nat} {Γ Γ' : List Nat} {κ : Nat} {es : List Expr} {κs : List Nat} {sl : List (Option Nat)} {ms : AM} {pos : Pos}
def mLate (i : Nat) (ms : AM) : AM := fun en => match en[i]? with
  | some (some _) => match ms en with
    | .ok ds en' => match en'[i]? with
      | some (some d) => .ok (d :: ds) (en'.set i none)
      | _ => .bad
    | .exc c x => .exc c x
    | .bad => .bad
  | _ => .bad
theorem ci_late {i : Nat} {x : Str} (hN : X.N[i]? = some x) (hv : Vis X.env.scope x) (hk : Γ'.getD i 0 = κ) (h : CI X G W lk Γ es κs sl [] Γ' ms) (hi : i ∉ lk := by decide) (hd : (x == ("__debug__" : Str)) = false := by decide) (hcd : (x == ("__classdict__" : Str)) = false := by decide)
    (hs : starEach (.Name x pos :: es) X.env = (false, eval (.Name x pos) X.env) :: starEach es X.env := by rfl) : CI X G W lk Γ (.Name x pos :: es) (κ :: κs) (some i :: sl) [] Γ' (mLate i ms) :=
  PA.imp (pa_cons (pe_var hN hv hd hcd) h hs) fun σ H Q ⟨B, Z, en, fps, C, o⟩ => by
    unfold mLate at o
    split at o
    · rename_i d0 e0
      obtain ⟨v, h1, _⟩ := C.rep i d0 e0
      refine ⟨v, h1, B, Z, en, fps, C, ?_⟩
      cases em : ms en with
      | bad => rw [em] at o; exact o.elim
      | exc c x => rw [em] at o; exact o
      | ok ds en' =>
        rw [em] at o
        dsimp only at o
        intro vs Z' H' fps' fpl C' h' s'
        split at o
        · rename_i d e1
          obtain ⟨v', h2, ow⟩ := C'.rep i d e1
          rw [h1] at h2; cases h2
          rw [hk] at ow
          refine o (v :: vs) Z' H' _ (fps' i :: fpl) (C'.drop i hi) ⟨.cons (ow.monoZ fun a z => .inl z) (ownK_keep (fun _ _ q _ => q) (fun a z => ⟨.inl (Zl_nil.mp z), fun _ q => q⟩) h'.own fun _ _ _ q => q), ?_, fun a m => ?_, fun a m j q => ?_, fun a m => ?_⟩ fun j l q => ?_
          · rw [List.flatten_cons]
            exact List.nodup_append.mpr ⟨C'.nd i, h'.nd, fun a m b m' e => h'.ds b m' i (e ▸ m)⟩
          · rw [List.flatten_cons] at m
            rcases List.mem_append.mp m with m | m
            · exact C'.nz i a m
            · exact h'.nz a m
          · rw [List.flatten_cons] at m
            split at q
            · cases q
            · rename_i hj
              rcases List.mem_append.mp m with m | m
              · exact hj (C'.dis j i a q m)
              · exact h'.ds a m j q
          · rw [List.flatten_cons] at m
            rcases List.mem_append.mp m with m | m
            · rcases C'.newf i a m with z | z | z
              · exact .inl z
              · exact absurd (C'.bok.lki i a z) hi
              · exact .inr z
            · exact h'.nw a m
          · cases j with
            | zero => cases q; exact ⟨v, rfl, h1⟩
            | succ j => exact s' j l (by simpa using q)
        · exact o.elim
    · exact o.elim
end
end Im
/-! repr of [x, {}]. -/
namespace Im
open PySem PySem.Spec PyProof.Rows L2
section
variable {X : Cx}
def rReprE (K : PySem.W.Frag) : List V → Hp → VK → Prop := fun xs H Q => rRepr K xs H Q ∨ ∃ (a : Addr) (x1 : V) (x2 : Addr) (p : PyData), xs = [.ref a] ∧ SqL K H a [x1, .ref x2] ∧ Dp K H x1 p ∧ p.hasDict = false ∧ p.showable = true ∧ p.depth ≤ 50 ∧ H x2 = some (.dK []) ∧ (PyData.list [p, .dict []]).shown.length ≤ sizeLine ∧ Q (.str (PyData.list [p, .dict []]).shown) H
theorem call_reprE (hg : X.A.guards = some []) (hu : X.A.units + 65 < cLine) : CallR X (.builtin "repr") (rReprE X.K) := by
  intro pins s σ H xs us Q I r h
  rcases h with h | ⟨a, x1, x2, p, rfl, h1, h2, nd, hs, hp, hx, hz, q⟩
  · exact call_repr hg (by omega) pins s σ H xs us Q I r h
  obtain ⟨u, rfl, rx⟩ := vals1 r
  obtain rfl : u = Value.ref a := rx
  obtain ⟨its, vr, ⟨o, n, l1, l2, _, l3⟩, _⟩ := I.list h1
  obtain ⟨w1, w2, rfl, r1, r2⟩ := vals2 vr
  obtain rfl : w2 = Value.ref x2 := r2
  obtain ⟨as, rd⟩ := Dp.reads I p x1 w1 h2 r1
  obtain ⟨_, y, v, rr, d⟩ := (show ObjOk X.prog X.w H s.heap x2 (.dK []) from I.hok x2 _ hx)
  cases rr
  obtain ⟨o2, es, ep, g1, g2, g3, g4, g5, g6⟩ := d
  have e2 : es = #[] := by
    rw [← Array.toList_eq_nil_iff]
    cases q : es.toList with
    | nil => rfl
    | cons x l => rw [q] at g5; cases g5
  subst e2
  have rd2 : Reads s.heap (.ref x2) (.dict []) ([x2] ++ []) := .dict g1 g2.1 g3 .nil .nil
  have hz' : (listText (PyData.shownAll [p, .dict []])).length ≤ sizeLine := by simpa only [PyData.shown] using hz
  obtain ⟨b1, hb1, k1⟩ := ReprK.of_reads (prog := X.prog) (w := X.w) rd hs (fun e => by rw [nd] at e; cases e) (Nat.le_trans (listText_mem_le (by simp [PyData.shownAll])) hz')
  obtain ⟨b2, hb2, k2⟩ := ReprK.of_reads (prog := X.prog) (w := X.w) rd2 rfl (fun _ m => by
    simp at m
    rw [← m] at y; simp at y) (Nat.le_trans (listText_mem_le (by simp [PyData.shownAll])) hz')
  have r : Reads s.heap (.ref a) (.list [p, .dict []]) _ := .list l1 l2 l3 (.cons rd (.cons rd2 .nil))
  have hm : PyData.depth (.list [p, .dict []]) = Nat.max p.depth 1 + 1 := by
    simp [PyData.depth, PyData.depthAll, PyData.depthKv]
    try omega
  have hb : ReadAtMost s.heap (Nat.max p.depth 1) (b1 ++ b2) := fun b m => by
    rcases List.mem_append.mp m with m | m
    · obtain ⟨d, as, q1, q2⟩ := hb1 b m
      exact ⟨d, as, q1, Nat.le_trans q2 (Nat.le_max_left _ _)⟩
    · obtain ⟨d, as, q1, q2⟩ := hb2 b m
      exact ⟨d, as, q1, Nat.le_trans q2 (by
        have : PyData.depth (.dict []) ≤ 1 := by simp [PyData.depth, PyData.depthKv]
        exact Nat.le_trans this (Nat.le_max_right _ _))⟩
  have hna : a ∉ b1 ++ b2 := not_mem_of_deeper r (by rw [hm]; omega) hb
  have hd1 : PyData.depth (.dict []) ≤ Nat.max p.depth 1 := Nat.le_trans (by simp [PyData.depth, PyData.depthKv]) (Nat.le_max_right _ _)
  have k1' := (k1.more (as' := b1 ++ b2) fun b m => List.mem_append_left _ m).level_le (Nat.le_max_left _ 1)
  have k2' := (k2.more (as' := b1 ++ b2) fun b m => List.mem_append_right _ m).level_le hd1
  have hd2 : Nat.max p.depth 1 ≤ 50 := Nat.max_le.mpr ⟨hp, by decide⟩
  refine call_repr_slot (by omega) ⟨o, l1, l2⟩ F.slot_list_repr.toG ?_
  refine call_list_reprK (as := b1 ++ b2) (d := Nat.max p.depth 1) (ts := PyData.shownAll [p, .dict []]) l1 l2 l3 hna (by simp [PyData.shownAll]) (fun i yv e => ?_) hg (fun b _ => Clear.nil b) (by show X.A.units + 1 + _ < cLine; omega) (fun _ _ e => e) (fun h' u tk hk => ⟨_, _, rfl, ⟨.str _, H, I.kept (h' := h') (t' := tk) hk, ⟨u, by simp only [PyData.shown]⟩, q⟩⟩) hz'
  match i, e with
  | 0, e => cases e; exact ⟨_, rfl, k1'⟩
  | 1, e => cases e; exact ⟨_, rfl, k2'⟩
  | i + 2, e => simp at e
theorem lk_reprE {G : GI} (hK : G.K = X.K) : Lk1 G (rReprE X.K) dReprE := by
  intro H v d d' Q ⟨_, _, _, o⟩ e q
  unfold dReprE at e
  split at e
  · rename_i x
    split at e
    · rename_i p ep
      split at e
      · rename_i c
        cases e
        rw [Bool.and_eq_true, Bool.and_eq_true] at c
        obtain ⟨a, x1, x2, rfl, g1, g2, g3⟩ := own_ed2 hK o ep
        exact .inr ⟨a, x1, x2, p, rfl, g1, g2, toP_nodict _ _ ep, c.1.1, of_decide_eq_true c.1.2, g3, lim_ok (of_decide_eq_true c.2), q _ .str⟩
      · cases e
    · cases e
  · exact .inl (lk_repr hK H v _ d' Q ⟨_, _, _, o⟩ e q)
end
end Im
/-! [f(x) for x in xs], where f changes the x that it is handed. -/
namespace Im
open PySem PySem.Spec PyProof.Rows L2
section
variable {G : GI} {B : Bs} {W : WX} {lk : List Nat} {Z Z' : Addr → Prop} {σ σ' : St} {H H' : Hp} {Γ : List Nat} {en : En} {fps : Nat → List Addr} {κ k : Nat} {K : PySem.W.Frag}
variable {X : Cx} {pos : Pos}
/-- a part of a slot's value was handed over, and came back changed -/
theorem mark_cfg {sg : Sg} {i : Nat} {fn fr fp2 : List Addr} {f' : Nat → List Addr} {v v' : V} {d d2 : D} {ios : En} (C : Cfg G B lk Z σ H Γ en fps) (hi : i ∉ lk) (hl : i < en.length) (hfn : ∀ a ∈ fn, a ∈ fps i)
    (x : EndOk G sg H Z (fun j => if j = 0 then fn else []) [v] d ios v' Z' H' fr f') (ow : ∃ v, σ[i]? = some (some v) ∧ Own G Z' H' (Γ.getD i 0) v d2 fp2) (nd : fp2.Nodup) (hm : ∀ a ∈ fp2, (a ∈ fps i ∧ a ∉ fn) ∨ a ∈ f' 0) :
    Cfg G B lk Z' σ H' Γ (en.set i (some d2)) (fun j => if j = i then fp2 else fps j) := by
  have kf : ∀ {j : Nat} {a : Addr}, a ∈ (if j = 0 then fn else []) → a ∈ fn := fun {j a} m => by
    split at m
    · exact m
    · cases m
  have st : ∀ a o, H a = some o → a ∉ fn → NT o → H' a = some o := fun a o e n t => (x.keep a o e fun j m => n (kf m)).eq t
  have sI : StayI H H' := fun a o e n => st a o e (fun m => by
    obtain ⟨o', e', c⟩ := C.chg (hfn a m)
    rw [e] at e'; cases e'; exact n c.t) (nct n)
  have sZ : ∀ a, Z a → Z' a ∧ ∀ o, H a = some o → H' a = some o := fun a z => ⟨x.zb a z, fun o e => st a o e (fun m => C.nz i a (hfn a m) z) (by
    obtain ⟨o', e', t⟩ := C.zt a z
    rw [e] at e'; cases e'; exact t)⟩
  have fs : ∀ j, j ≠ i → ∀ a ∈ fps j, ∀ o, H a = some o → H' a = some o := fun j hj a m o e => st a o e (fun m' => hj (C.dis j i a m (hfn a m'))) (by
    obtain ⟨o', e', t⟩ := C.chg m
    rw [e] at e'; cases e'; exact t.nt)
  have iw : ∀ a ∈ f' 0, a ∈ fps i ∨ H a = none := fun a m => (x.inw 0 a m).imp (fun ⟨j, q⟩ => hfn a (kf q)) id
  have zold : ∀ a, Z' a → Z a ∨ a ∈ fn ∨ H a = none := fun a z => by
    rcases x.zn a z with y | ⟨j, y⟩ | y
    · exact .inl y
    · exact .inr (.inl (kf y))
    · exact .inr (.inr y)
  have hsome : ∀ {j : Nat} {a : Addr}, a ∈ fps j → H a ≠ none := fun {j a} m e => by
    obtain ⟨o, e', _⟩ := C.chg m
    rw [e] at e'; cases e'
  refine ⟨C.bok, by rw [List.length_set]; exact C.len, fun j d e => ?_, fun j e => ?_, fun j => ?_, fun j l a h h' => ?_, fun j a h => ?_, x.zt, x.tab, fun a o e n => ?_, fun j a h => ?_, fun j l a h y => ?_, fun j a y => ?_, fun a z => x.zb a (C.zb a z), fun a z => ?_, C.pin⟩
  · by_cases hj : j = i
    · subst hj
      rw [List.getElem?_set_self hl] at e
      cases e
      rw [if_pos rfl]
      exact ow
    · rw [List.getElem?_set_ne (Ne.symm hj)] at e
      rw [if_neg hj]
      obtain ⟨w, h1, h2⟩ := C.rep j d e
      exact ⟨w, h1, own_keep sI sZ h2 (fs j hj)⟩
  · by_cases hj : j = i
    · subst hj
      exact absurd (List.getElem?_set_self hl) (e d2)
    · rw [if_neg hj]
      exact C.emp j fun d q => e d (by rw [List.getElem?_set_ne (Ne.symm hj)]; exact q)
  · by_cases hj : j = i
    · rw [if_pos hj]; exact nd
    · rw [if_neg hj]; exact C.nd j
  · have key : ∀ {j : Nat}, j ≠ i → a ∈ fps j → a ∈ fp2 → False := fun {j} hj m m' => by
      rcases hm a m' with q | q
      · exact hj (C.dis j i a m q.1)
      · rcases iw a q with q | q
        · exact hj (C.dis j i a m q)
        · exact hsome m q
    by_cases hj : j = i
    · rw [if_pos hj] at h
      by_cases hl' : l = i
      · rw [hj, hl']
      · rw [if_neg hl'] at h'
        exact (key hl' h' h).elim
    · rw [if_neg hj] at h
      by_cases hl' : l = i
      · rw [if_pos hl'] at h'
        exact (key hj h h').elim
      · rw [if_neg hl'] at h'
        exact C.dis j l a h h'
  · intro z
    have key : ∀ {j : Nat}, a ∈ fps j → (a ∈ fn → j ≠ i ∨ False) → False := fun {j} m n => by
      rcases zold a z with y | y | y
      · exact C.nz j a m y
      · rcases n y with q | q
        · exact q (C.dis j i a m (hfn a y))
        · exact q
      · exact hsome m y
    by_cases hj : j = i
    · rw [if_pos hj] at h
      rcases hm a h with q | q
      · exact key q.1 fun m => (q.2 m).elim
      · exact x.inz 0 a q z
    · rw [if_neg hj] at h
      exact key h fun _ => .inl hj
  · refine (C.keep a o e n).trans fun o1 e1 => x.keep a o1 e1 fun j m => ?_
    rcases C.newf i a (hfn a (kf m)) with y | y | y
    · exact n y
    · exact hi (C.bok.lki i a y)
    · rw [e] at y; cases y
  · by_cases hj : j = i
    · rw [if_pos hj] at h
      subst hj
      rcases hm a h with q | q
      · exact C.newf j a q.1
      · rcases iw a q with q | q
        · exact C.newf j a q
        · exact (C.none_of q).imp id .inr
    · rw [if_neg hj] at h
      exact C.newf j a h
  · by_cases hj : j = i
    · rw [if_pos hj] at h
      subst hj
      have key : a ∈ fps j → j = l := fun m => C.lkd j l a m y
      rcases hm a h with q | q
      · exact key q.1
      · rcases iw a q with q | q
        · exact key q
        · rcases C.lks l a y with z | z
          · obtain ⟨o, e, _⟩ := C.zt a z
            rw [q] at e; cases e
          · exact absurd q (hsome z)
    · rw [if_neg hj] at h
      exact C.lkd j l a h y
  · rcases C.lks j a y with z | z
    · exact .inl (x.zb a z)
    · have hj : j ≠ i := fun e => hi (e ▸ C.bok.lki j a y)
      rw [if_neg hj]
      exact .inr z
  · rcases zold a z with y | y | y
    · exact C.zn a y
    · rcases C.newf i a (hfn a y) with q | q | q
      · exact .inr (.inl q)
      · exact .inr (.inr (.inl ⟨i, q⟩))
      · exact .inr (.inr (.inr q))
    · exact (C.none_of y).elim (fun q => .inr (.inl q)) fun q => .inr (.inr (.inr q))
/-- a sequence, taken apart: lists (owned), tuples -/
structure Seqy (G : GI) (K : PySem.W.Frag) (κ k : Nat) (mk : List D → D) (J : Addr → It) (Sq : Hp → Addr → Prop) : Prop where
  opn : ∀ {Z : Addr → Prop} {H : Hp} {v : V} {ds : List D} {fp : List Addr}, Own G Z H κ v (mk ds) fp → ∃ (a : Addr) (vs : List V) (rt fq : List Addr), v = .ref a ∧ Sq H a ∧ fp = rt ++ fq ∧ OwnL G Z H k vs ds fq ∧
    (∀ {Z' : Addr → Prop} {H' : Hp} {ds' : List D} {fq' : List Addr}, (∀ a o, H a = some o → a ∈ rt ∨ ¬ ChgT o → H' a = some o) → OwnL G Z' H' k vs ds' fq' → Own G Z' H' κ v (mk ds') (rt ++ fq')) ∧
    (∀ i, i < ds.length → (J a).go i H) ∧ (∀ i, ds.length ≤ i → (J a).stop i H) ∧ (∀ i x H', (J a).yld i H x H' → H' = H ∧ ∀ y, vs[i]? = some y → x = y)
theorem seqy_lst (K : PySem.W.Frag) : Seqy G K (k + 1) k D.lst (Itl K) (fun H a => ∃ xs, SqL K H a xs) where
  opn := fun {Z H v ds fp} h => by
    obtain ⟨a, vs, fq, rfl, h3, h4, rfl⟩ := own_lstS h
    refine ⟨a, vs, [a], fq, rfl, ⟨vs, .inl (.of h3)⟩, rfl, h4, fun hk ho => .own (hk a _ h3 (.inl List.mem_cons_self)) ho, fun i hi => ?_, fun i hi => ⟨vs, .inl (.of h3), by rw [h4.len]; exact hi⟩, fun i x H' ⟨e1, hx⟩ => ⟨e1, fun y hy => ?_⟩⟩
    · exact ⟨vs, vs[i]'(by rw [h4.len]; exact hi), .inl (.of h3), List.getElem?_eq_getElem _⟩
    · have q := hx vs (.inl (.of h3))
      rw [hy] at q; cases q; rfl
theorem seqy_tup (K : PySem.W.Frag) : Seqy G K k k D.tup (Itt K) (fun H a => ∃ xs, SqT K H a xs) where
  opn := fun {Z H v ds fp} h => by
    cases h with
    | @tup _ a vs _ _ h3 h4 =>
    refine ⟨a, vs, [], fp, rfl, ⟨vs, .inl (.of h3)⟩, rfl, h4, fun hk ho => .tup (hk a _ h3 (.inr fun z => z)) ho, fun i hi => ?_, fun i hi => ⟨vs, .inl (.of h3), by rw [h4.len]; exact hi⟩, fun i x H' ⟨e1, hx⟩ => ⟨e1, fun y hy => ?_⟩⟩
    · exact ⟨vs, vs[i]'(by rw [h4.len]; exact hi), .inl (.of h3), List.getElem?_eq_getElem _⟩
    · have q := hx vs (.inl (.of h3))
      rw [hy] at q; cases q; rfl
/-- all marked -/
def markAll (F : List D → FRes) : List D → Option (List Bool × List D)
  | [] => some ([], [])
  | d :: ds => match F [d] with
    | .ok (.bl b) ios => match ios[0]? with
      | some (some d') => (markAll F ds).map fun r => (b :: r.1, d' :: r.2)
      | _ => none
    | _ => none
def mMark (F : List D → FRes) (mk : List D → D) (un : D → Option (List D)) (vs : List Nat) (i : Nat) : EM := fun en => match en[i]? with
  | some (some d) => match un d with
    | some ds => if ds.length ≤ lim then match markAll F ds with
        | some r => .ok (.lst (r.1.map D.bl)) ((killE vs en).set i (some (mk r.2)))
        | none => .bad
      else .bad
    | none => .bad
  | _ => .bad
def unL : D → Option (List D)
  | .lst xs => some xs
  | _ => none
def unT' : D → Option (List D)
  | .tup xs => some xs
  | _ => none
def iMark (J : Addr → It) (Sq : Hp → Addr → Prop) (i : Nat) : TIr := fun σ H R => ∃ a, σ[i]? = some (some (.ref a)) ∧ Sq H a ∧ R (J a) H
abbrev tMark (G : GI) (sg : Sg) (F : List D → FRes) (j : Nat) : TE := fun σ H Q => ∃ v, σ[j]? = some (some v) ∧ spI G sg F [v] H Q (WE WN σ)
theorem killE_get {is : List Nat} {en : En} {i : Nat} (h : i ∉ is) : (killE is en)[i]? = en[i]? := by
  induction is generalizing en with
  | nil => rfl
  | cons j is ih =>
    show (killE is (en.set j none))[i]? = _
    rw [ih fun m => h (List.mem_cons_of_mem _ m), List.getElem?_set_ne fun e => h (by rw [e]; exact List.mem_cons_self)]
theorem killE_len {is : List Nat} {en : En} : (killE is en).length = en.length := by
  induction is generalizing en with
  | nil => rfl
  | cons j is ih =>
    show (killE is (en.set j none)).length = _
    rw [ih, List.length_set]
theorem mark_run {F : List D → FRes} {mk : List D → D} {un : D → Option (List D)} {J : Addr → It} {Sq : Hp → Addr → Prop} {i j : Nat} {Q : VK} (S : Seqy G K κ k mk J Sq) (hun : ∀ d ds, un d = some ds → d = mk ds) (hi : i ∉ lk) (hj : j ∉ lk) (hij : i ≠ j) (hκ : Γ.getD i 0 = κ) (hjl : j < en.length)
    (C : Cfg G B lk Z σ H Γ en fps) (o : OutE G B W lk 1 [] Γ σ Q (mMark F mk un [j] i en)) :
    tLc (iMark J Sq i) (gName j) (fun σ H Q => Q true H) (tMark G ⟨[k], [some k], 0⟩ F j) [j] σ H Q := by
  unfold mMark at o
  split at o
  case h_2 => exact o.elim
  rename_i d0 e0
  split at o
  case h_2 => exact o.elim
  rename_i ds eu
  have e1 := hun d0 ds eu
  subst e1
  split at o
  case isFalse => exact o.elim
  rename_i hlim
  split at o
  case h_2 => exact o.elim
  rename_i r er
  obtain ⟨v, sv, ow⟩ := C.rep i _ e0
  rw [hκ] at ow
  obtain ⟨a, vs0, rt0, fq0, rfl, hsq, ef0, ol0, _, _, _, _⟩ := S.opn ow
  refine ⟨a, sv, hsq, fun p hp => ?_⟩
  have hvj : ∀ i ∈ [j], i ∉ lk := fun i m => by simp at m; rw [m]; exact hj
  generalize hB1 : rb H Z lk fps [] = B1
  have C1' : Cfg G B1 lk Z σ H Γ en fps := hB1 ▸ C.rebaseP _ [] fun _ h => nomatch h
  have pB1 : B1.pins = [] := by rw [← hB1]; rfl
  have hB1H : B1.H = H := by rw [← hB1]; rfl
  have back : ∀ {Z' : Addr → Prop} {H' : Hp} {en' : En} {fps' : Nat → List Addr}, Cfg G B1 lk Z' (L2.wipe σ [j]) H' Γ en' fps' → Cfg G B lk Z' σ H' Γ en' fps' := fun {Z' H' en' fps'} D => by
    have D1 := D.unwipe pB1
    rw [← hB1] at D1
    have E := Cfg.comp (cfg_pins C (pins := []) fun _ h => nomatch h) (fun _ h => h) D1
    have E2 := cfg_pins (pins := B.pins) E fun q m => C.pin q m
    exact E2
  have sw : ∀ τ : St, τ = L2.wipe σ [j] → τ[i]? = some (some (.ref a)) := fun τ e => by
    rw [e, wipe_out (by simpa using hij)]; exact sv
  refine ⟨fun n m H' => ∃ (Z' : Addr → Prop) (en' : En) (fps' : Nat → List Addr) (bs bs2 : List Bool) (ys ys2 : List D), n + m = ds.length ∧ ys.length = n ∧ bs.length = n ∧ Cfg G B1 lk Z' (L2.wipe σ [j]) H' Γ en' fps' ∧ en' = (killE [j] en).set i (some (mk (ys ++ ds.drop n))) ∧ H' p = some (.lst (bs.map V.bl)) ∧ ¬ Z' p ∧ (∀ i, p ∉ fps' i) ∧
    markAll F (ds.drop n) = some (bs2, ys2) ∧ r = (bs ++ bs2, ys ++ ys2), ?_, ?_⟩
  · obtain ⟨f0, C2, sb⟩ := C1'.killS (is := [j]) hvj
    have C3 := (C2.wipe (fun i m d => killE_none m) pB1).grow (o := .lst []) hp
    refine ⟨ds.length, Z, _, f0, [], r.1, [], r.2, by omega, rfl, rfl, C3, ?_, upd_same, fun z => ?_, fun i m => ?_, by rw [List.drop_zero]; exact er, rfl⟩
    · apply List.ext_getElem?
      intro l
      by_cases hl : i = l
      · subst hl
        rw [List.getElem?_set_self (by rw [killE_len]; exact (List.getElem?_eq_some_iff.mp e0).1), killE_get (by simpa using hij), e0]
        simp
      · rw [List.getElem?_set_ne hl]
    · obtain ⟨u, q, _⟩ := C.zt p z
      rw [hp] at q; cases q
    · obtain ⟨u, q, _⟩ := C.chg (sb i p m)
      rw [hp] at q; cases q
  · rintro n m H2 ⟨Z2, en2, fps2, bs, bs2, ys, ys2, em, ly, lb, C2, een, hD, pZ, pf, mk2, er2⟩
    have hil : i < en2.length := by rw [een, List.length_set, killE_len]; exact (List.getElem?_eq_some_iff.mp e0).1
    have e2 : en2[i]? = some (some (mk (ys ++ ds.drop n))) := by
      rw [een, List.getElem?_set_self (by rw [killE_len]; exact (List.getElem?_eq_some_iff.mp e0).1)]
    obtain ⟨v2, sv2, ow2⟩ := C2.rep i _ e2
    rw [sw _ rfl] at sv2
    cases sv2
    rw [hκ] at ow2
    obtain ⟨a2, vs, rt, fq, ea, _, ef, ol, cl, go, stp, yl⟩ := S.opn ow2
    cases ea
    by_cases hn : n < ds.length
    · refine .inr ⟨go n (by simp; omega), _, fun H' h => h, fun x H3 y => ?_⟩
      obtain ⟨rfl, yv⟩ := yl n x H3 y
      rw [List.drop_eq_getElem_cons hn] at mk2 ol
      obtain ⟨w, f1, f2, f3, q1, q2, q3, q4, q5⟩ := ol.split (j := n) (d := ds[n]) (by rw [List.getElem?_append_right (by omega), ly]; simp)
      obtain rfl := yv w q1
      unfold markAll at mk2
      split at mk2
      case h_2 => cases mk2
      rename_i b ios eF
      split at mk2
      case h_2 => cases mk2
      rename_i d' eio
      cases mr : markAll F (ds.drop (n + 1)) with
      | none => rw [mr] at mk2; cases mk2
      | some r3 =>
        rw [mr] at mk2
        obtain ⟨rfl, rfl⟩ : b :: r3.1 = bs2 ∧ d' :: r3.2 = ys2 := by
          have := Option.some.inj mk2
          exact ⟨congrArg Prod.fst this, congrArg Prod.snd this⟩
        have hw : L2.wipe ((L2.wipe σ [j]).set j (some x)) [j] = L2.wipe σ [j] := by
          refine wipe_ext (vs := [j]) (ts := [j]) (σ := σ) ⟨by rw [List.length_set, wipe_length], fun l hl => ?_⟩ (fun _ h => h) trivial
          rw [List.getElem?_set_ne (fun e => hl (by rw [e]; exact List.mem_cons_self)), wipe_out hl]
        refine ⟨hw, ?_⟩
        dsimp only
        rw [if_pos rfl]
        have lj : j < (L2.wipe σ [j]).length := by rw [wipe_length, C.len]; exact hjl
        refine ⟨x, List.getElem?_set_self lj, rfl, Z2, [ds[n]], fun l => if l = 0 then f2 else [], ⟨C2.zt, C2.tab⟩, ⟨fun l d e => ?_, rfl, fun l hl => ?_, fun l => ?_, fun l l' b' h h' => ?_, fun l b' h => ?_⟩, ?_⟩
        have nd0 := C2.nd i
        rw [ef, q2] at nd0
        have ndq := (List.nodup_append.mp nd0).2.1
        have m2 : ∀ b' ∈ f2, b' ∈ fps2 i := fun b' m => by rw [ef, q2]; exact List.mem_append_right _ (List.mem_append_right _ (List.mem_append_left _ m))
        · match l, e with
          | 0, e => cases e; exact ⟨x, rfl, q4⟩
          | l + 1, e => simp at e
        · have hl : 1 ≤ l := hl
          rw [if_neg (by omega)]
        · have nd0 := C2.nd i
          rw [ef, q2] at nd0
          split
          · exact (List.nodup_append.mp (List.nodup_append.mp (List.nodup_append.mp nd0).2.1).2.1).1
          · exact List.nodup_nil
        · split at h
          · split at h'
            · rename_i h1 h2; rw [h1, h2]
            · cases h'
          · cases h
        · split at h
          · exact C2.nz i b' (by rw [ef, q2]; exact List.mem_append_right _ (List.mem_append_right _ (List.mem_append_left _ h)))
          · cases h
        · rw [eF]
          intro v' Z' H' fr f' ex
          have nd0 := C2.nd i
          rw [ef, q2] at nd0
          have n0 := List.nodup_append.mp nd0
          have n1 := List.nodup_append.mp n0.2.1
          have n2 := List.nodup_append.mp n1.2.1
          have m2 : ∀ b' ∈ f2, b' ∈ fps2 i := fun b' m => by rw [ef, q2]; exact List.mem_append_right _ (List.mem_append_right _ (List.mem_append_left _ m))
          have kf : ∀ {l : Nat} {b' : Addr}, b' ∈ (if l = 0 then f2 else []) → b' ∈ f2 := fun {l b'} m => by
            split at m
            · exact m
            · cases m
          have st : ∀ b' o, H3 b' = some o → b' ∉ f2 → NT o → H' b' = some o := fun b' o e nn t => (ex.keep b' o e fun l m => nn (kf m)).eq t
          have ntf : ∀ {b' : Addr} {o : HO}, b' ∈ fps2 i → H3 b' = some o → NT o := fun {b' o} m e => by
            obtain ⟨o', e', t⟩ := C2.chg m
            rw [e] at e'; cases e'; exact t.nt
          have sI : StayI H3 H' := fun b' o e nn => st b' o e (fun m => by
            obtain ⟨o', e', c⟩ := C2.chg (m2 b' m)
            rw [e] at e'; cases e'; exact nn c.t) (nct nn)
          have sZ : ∀ b', Z2 b' → Z' b' ∧ ∀ o, H3 b' = some o → H' b' = some o := fun b' z => ⟨ex.zb b' z, fun o e => st b' o e (fun m => C2.nz i b' (m2 b' m) z) (by
            obtain ⟨o', e', t⟩ := C2.zt b' z
            rw [e] at e'; cases e'; exact t)⟩
          have in1 : ∀ b' ∈ f1, b' ∈ fps2 i := fun b' m => by rw [ef, q2]; exact List.mem_append_right _ (List.mem_append_left _ m)
          have in3 : ∀ b' ∈ f3, b' ∈ fps2 i := fun b' m => by rw [ef, q2]; exact List.mem_append_right _ (List.mem_append_right _ (List.mem_append_right _ m))
          have inr : ∀ b' ∈ rt, b' ∈ fps2 i := fun b' m => by rw [ef]; exact List.mem_append_left _ m
          have x1 : ∀ b' ∈ f1, b' ∉ f2 := fun b' m m' => n1.2.2 b' m b' (List.mem_append_left _ m') rfl
          have x3 : ∀ b' ∈ f3, b' ∉ f2 := fun b' m m' => n2.2.2 b' m' b' m rfl
          have xr : ∀ b' ∈ rt, b' ∉ f2 := fun b' m m' => n0.2.2 b' m b' (List.mem_append_right _ (List.mem_append_left _ m')) rfl
          have io := ex.io 0 d' eio
          obtain ⟨k', w', t1, t2, t3⟩ := io
          have t1 : some k = some k' := t1
          cases t1
          have t2 : some x = some w' := t2
          cases t2
          have P1 := ownL_keep sI sZ q3 fun b' m o e => st b' o e (x1 b' m) (ntf (in1 b' m) e)
          have P3 := ownL_keep sI sZ q5 fun b' m o e => st b' o e (x3 b' m) (ntf (in3 b' m) e)
          have tk : (ys ++ ds[n] :: ds.drop (n + 1)).take n = ys := by rw [List.take_append_of_le_length (by omega), List.take_of_length_le (by omega)]
          have dk : (ys ++ ds[n] :: ds.drop (n + 1)).drop (n + 1) = ds.drop (n + 1) := by
            rw [List.drop_append, List.drop_eq_nil_of_le (by omega), ly]
            simp
          rw [tk] at P1
          rw [dk] at P3
          have PL : OwnL G Z' H' k vs (ys ++ d' :: ds.drop (n + 1)) (f1 ++ (f' 0 ++ f3)) := by
            have q := P1.append (.cons t3 P3)
            have ev : vs.take n ++ x :: vs.drop (n + 1) = vs := by
              have hl : n < vs.length := (List.getElem?_eq_some_iff.mp q1).1
              have hx : vs[n] = x := (List.getElem?_eq_some_iff.mp q1).2
              rw [← hx, ← List.drop_eq_getElem_cons hl, List.take_append_drop]
            rwa [ev] at q
          have OW := cl (fun b' o e c => st b' o e (fun m => by
            rcases c with c | c
            · exact xr b' c m
            · obtain ⟨o', e', t⟩ := C2.chg (m2 b' m)
              rw [e] at e'; cases e'; exact c t.t) (by
            rcases c with c | c
            · exact ntf (inr b' c) e
            · exact nct c)) PL
          have iw : ∀ b' ∈ f' 0, b' ∈ f2 ∨ H3 b' = none := fun b' m => (ex.inw 0 b' m).imp (fun ⟨l, q⟩ => kf q) id
          have hsm : ∀ {b' : Addr}, b' ∈ fps2 i → H3 b' ≠ none := fun {b'} m e => by
            obtain ⟨o, e', _⟩ := C2.chg m
            rw [e] at e'; cases e'
          have ap : ∀ {b' : Addr}, b' ∈ f' 0 → b' ∈ fps2 i → b' ∈ f2 := fun {b'} m m' => (iw b' m).resolve_right (hsm m')
          have ND : (rt ++ (f1 ++ (f' 0 ++ f3))).Nodup := by
            refine List.nodup_append.mpr ⟨n0.1, List.nodup_append.mpr ⟨n1.1, List.nodup_append.mpr ⟨ex.ind 0, n2.2.1, fun b1 h1 b2 h2 e => ?_⟩, fun b1 h1 b2 h2 e => ?_⟩, fun b1 h1 b2 h2 e => ?_⟩
            · subst e; exact x3 b1 h2 (ap h1 (in3 b1 h2))
            · subst e
              rcases List.mem_append.mp h2 with h2 | h2
              · exact x1 b1 h1 (ap h2 (in1 b1 h1))
              · exact n1.2.2 b1 h1 b1 (List.mem_append_right _ h2) rfl
            · subst e
              rcases List.mem_append.mp h2 with h2 | h2
              · exact n0.2.2 b1 h1 b1 (List.mem_append_left _ h2) rfl
              · rcases List.mem_append.mp h2 with h2 | h2
                · exact xr b1 h1 (ap h2 (inr b1 h1))
                · exact n0.2.2 b1 h1 b1 (List.mem_append_right _ (List.mem_append_right _ h2)) rfl
          have C3 := mark_cfg (d2 := mk (ys ++ d' :: ds.drop (n + 1))) (fp2 := rt ++ (f1 ++ (f' 0 ++ f3))) C2 hi hil m2 ex ⟨.ref a, sw _ rfl, by rw [hκ]; exact OW⟩ ND (fun b' m => by
            rcases List.mem_append.mp m with m | m
            · exact .inl ⟨inr b' m, xr b' m⟩
            · rcases List.mem_append.mp m with m | m
              · exact .inl ⟨in1 b' m, x1 b' m⟩
              · rcases List.mem_append.mp m with m | m
                · exact .inr m
                · exact .inl ⟨in3 b' m, x3 b' m⟩)
          have hp2 : H' p = some (.lst (bs.map V.bl)) := st p _ hD (fun m => pf i (m2 p m)) fun _ z => nomatch z
          have pZ' : ¬ Z' p := fun z => by
            rcases ex.zn p z with q | ⟨l, q⟩ | q
            · exact pZ q
            · exact pf i (m2 p (kf q))
            · rw [hD] at q; cases q
          have pf' : ∀ l, p ∉ (if l = i then rt ++ (f1 ++ (f' 0 ++ f3)) else fps2 l) := fun l m => by
            split at m
            · rcases List.mem_append.mp m with m | m
              · exact pf i (inr p m)
              · rcases List.mem_append.mp m with m | m
                · exact pf i (in1 p m)
                · rcases List.mem_append.mp m with m | m
                  · rcases iw p m with m | m
                    · exact pf i (m2 p m)
                    · rw [hD] at m; cases m
                  · exact pf i (in3 p m)
            · exact pf l m
          have vb : v' = .bl b := by
            have := ex.own
            cases this; rfl
          subst vb
          refine ⟨_, hp2, ?_, ?_⟩
          · rw [List.length_map, lb]
            exact Nat.lt_of_lt_of_le hn (Nat.le_trans hlim (by decide))
          · have hbp : B1.H p = none := by rw [hB1H]; exact hp
            have C4 := C3.over (o := .lst (bs.map V.bl ++ [V.bl b])) hp2 trivial pZ' pf' hbp
            refine ⟨m - 1, by omega, Z', _, _, bs ++ [b], r3.1, ys ++ [d'], r3.2, by omega, by simp [ly], by simp [lb], C4, ?_, by rw [List.map_append]; exact upd_same, pZ', pf', mr, by rw [er2]; simp⟩
            rw [een, List.set_set, List.append_assoc]
            rfl
    · have hd : ds.drop n = [] := List.drop_eq_nil_of_le (by omega)
      rw [hd] at mk2 een e2
      refine .inl ⟨stp n (by simp; omega), ?_⟩
      unfold markAll at mk2
      obtain ⟨rfl, rfl⟩ : ([] : List Bool) = bs2 ∧ ([] : List D) = ys2 := by
        have := Option.some.inj mk2
        exact ⟨congrArg Prod.fst this, congrArg Prod.snd this⟩
      rw [List.append_nil] at een
      have C3 := back C2
      subst er2
      rw [een] at C3
      simp only [List.append_nil] at o
      have ob : ∀ bs : List Bool, OwnL G (Zl Z2 [] fps2) H2 0 (bs.map V.bl) (bs.map D.bl) [] := fun bs => by
        induction bs with
        | nil => exact .nil
        | cons b bs ih => exact .cons (fp := []) (fps := []) .bl ih
      refine o (.ref p) Z2 H2 fps2 [p] C3 ⟨.own hD (ob bs), by simp, fun b m => ?_, fun b m => ?_, fun b m => ?_⟩
      · simp at m; rw [m]; exact pZ
      · simp at m; rw [m]; exact pf
      · simp at m; rw [m]; exact C.none_of hp
variable {x y f : Str} {fa : Addr} {fd : FuncData} {ps : List Str} {sg : Sg} {F : List D → FRes} {p0 p1 : Pos} {lev : Nat}
/-- f(x), raw -/
theorem pe_mark {j : Nat} (Fo : FnG X.prog X.w X.K X.mg X.base (L2.CX X.prog X.w) lev fa fd ps (spI G sg F)) (hgd : X.A.guards = some []) (hr : Room lev X.A) (hg : Gl X f) (hm : X.mg f = some (.ref fa)) (hk : PySem.W.keepIn X.K (.ref fa) = true) (hb : KB X.K fd ps 1 [] [0]) (tk : Takes X WN)
    (hN : X.N[j]? = some y) (hv : Vis X.env.scope y) (hdb : (f == ("__debug__" : Str)) = false := by decide) (hd : (y == ("__debug__" : Str)) = false := by decide) (hcd : (y == ("__classdict__" : Str)) = false := by decide)
    (he : starEach [.Name y p1] X.env = (false, eval (.Name y p1) X.env) :: starEach [] X.env := by rfl) (hpl : (backTo pos (starEach [] X.env)).any (·.1) = false := by rfl) :
    PE X (.Call (.Name f p0) [.Name y p1] [] pos) (tMark G sg F j) := by
  refine ⟨fun pins s σ H Q I ⟨v, h1, h⟩ => ?_⟩
  refine wpAny_Call_Name_kw (ld_glob I hg hm ?_ hdb)
  refine PySem.W.callWith_K (h₀ := X.base) I.ok.mod.kin hk (thn ((pa_cons (pe_var (pos := p1) hN hv hd hcd) pa_nil he).run pos pins s σ H (fun vs H1 => vs = [v] ∧ H1 = H) I ⟨v, h1, rfl, rfl⟩) fun us s1 ⟨vs, H1, I1, r, e1, e2⟩ => ⟨I1.kIn, ?_⟩) he hpl
  subst e1 e2
  exact run_kb (kn := []) (zs := []) (ws := []) (E := WE WN) Fo hgd hr hb (passAt tk σ) I1 r .nil (by show us.length = 1; rw [← r.length]; rfl) rfl h
theorem pi_markL {i : Nat} {tg : Expr} (hN : X.N[i]? = some x) (hv : Vis X.env.scope x) (hd : (x == ("__debug__" : Str)) = false := by decide) (hcd : (x == ("__classdict__" : Str)) = false := by decide) : PI X tg (.Name x p0) (iMark (Itl X.K) (fun H a => ∃ xs, SqL X.K H a xs) i) :=
  PI.imp (pi_any (pe_var hN hv hd hcd)) fun σ H R ⟨a, h1, h2, h3⟩ => ⟨.ref a, h1, .inl ⟨a, rfl, h2, h3⟩⟩
theorem pi_markT {i : Nat} {tg : Expr} (hN : X.N[i]? = some x) (hv : Vis X.env.scope x) (hd : (x == ("__debug__" : Str)) = false := by decide) (hcd : (x == ("__classdict__" : Str)) = false := by decide) : PI X tg (.Name x p0) (iMark (Itt X.K) (fun H a => ∃ xs, SqT X.K H a xs) i) :=
  PI.imp (pi_any (pe_var hN hv hd hcd)) fun σ H R ⟨a, h1, h2, h3⟩ => ⟨.ref a, h1, .inr (.inl ⟨a, rfl, h2, h3⟩)⟩
variable {J : Addr → It} {Sq : Hp → Addr → Prop} {mk : List D → D} {un : D → Option (List D)} {i j : Nat} {tgp : Pos} {iter elt : Expr} {scope : Scope} {ro : RO}
/-- slots that no frame lacks -/
theorem Cfg.lenN (C : Cfg G B lk Z σ H Γ en fps) {pins : List (Addr × Obj)} {s : Shared} (I : Inv X pins σ H s) : en.length = X.N.length := by rw [← C.len]; exact I.len
theorem ei_mark (S : Seqy G X.K κ k mk J Sq) (hun : ∀ d ds, un d = some ds → d = mk ds) (hc : X.calm = true) (hN : X.N.Nodup) (hi : PI X (.Name y tgp) iter (iMark J Sq i)) (ok : BlkOk X.N X.env.scope scope [(y, j)])
    (hg : ∀ (s : Shared) (H : Hp) (C : Addr) (cl : List (Str × Addr)) (fp : List Addr), PG (X.blk s H scope (compEnvC scope cl C X.env) fp) (.Name y tgp) (gName j))
    (he : ∀ (s : Shared) (H : Hp) (C : Addr) (cl : List (Str × Addr)) (fp : List Addr), PE (X.blk s H scope (compEnvC scope cl C X.env) fp) elt (tMark G ⟨[k], [some k], 0⟩ F j))
    (hil : i ∉ lk := by decide) (hjl : j ∉ lk := by decide) (hij : i ≠ j := by decide) (hκ : Γ.getD i 0 = κ := by rfl) (hjN : X.N[j]? = some y := by rfl) (hs : ∀ x, foldedSetIterable iter X.env x = pure x := by intro _; rfl) :
    EI X G W lk Γ (.ListComp elt [⟨.Name y tgp, iter, [], 0⟩] scope pos) 1 [] Γ (mMark F mk un [j] i) := by
  have h := pe_lc (pos := pos) hc hN hi ok hg (fun _ _ _ _ _ => pts_nil) he hs
  refine ⟨fun pins s σ H Q I ⟨B, Z, en, fps, C, o⟩ => h.run pins s σ H Q I ?_⟩
  exact mark_run S hun hil hjl hij hκ (by rw [C.lenN I]; exact (List.getElem?_eq_some_iff.mp hjN).1) C o
theorem si_setMark {z : Nat} {nm : Str} {pn spos : Pos} (S : Seqy G X.K κ k mk J Sq) (hun : ∀ d ds, un d = some ds → d = mk ds) (hc : X.calm = true) (hN : X.N.Nodup) (hW : WFree W) (hz : X.N[z]? = some nm) (hzl : X.env.scope.names.lookup nm = some .local)
    (hsw : swapsWith (.ListComp elt [⟨.Name y tgp, iter, [], 0⟩] scope pos) (some (.Name nm pn)) spos.line X.env = pure true) (hi : PI X (.Name y tgp) iter (iMark J Sq i)) (ok : BlkOk X.N X.env.scope scope [(y, j)])
    (hg : ∀ (s : Shared) (H : Hp) (C : Addr) (cl : List (Str × Addr)) (fp : List Addr), PG (X.blk s H scope (compEnvC scope cl C X.env) fp) (.Name y tgp) (gName j))
    (he : ∀ (s : Shared) (H : Hp) (C : Addr) (cl : List (Str × Addr)) (fp : List Addr), PE (X.blk s H scope (compEnvC scope cl C X.env) fp) elt (tMark G ⟨[k], [some k], 0⟩ F j))
    (hil : i ∉ lk := by decide) (hjl : j ∉ lk := by decide) (hij : i ≠ j := by decide) (hκ : Γ.getD i 0 = κ := by rfl) (hjN : X.N[j]? = some y := by rfl) (hs : ∀ x, foldedSetIterable iter X.env x = pure x := by intro _; rfl)
    (g1 : z ∉ lk := by decide) (g2 : z < Γ.length := by decide) (g3 : (ro.io.getD z none).isSome = false := by rfl) :
    SI X G W lk ro Γ (.Assign [.Name nm pn] (.ListComp elt [⟨.Name y tgp, iter, [], 0⟩] scope pos) spos) (Γ.set z 1) (mSet z (mMark F mk un [j] i)) := by
  have h := ps_setLc (spos := spos) hc hN hz hzl hsw hi ok hg (fun _ _ _ _ _ => pts_nil) he hs
  refine ⟨fun pins s σ H D I ⟨B, Z, en, fps, P, C, o⟩ => h.run pins s σ H D I ?_⟩
  refine mark_run (W := W) S hun hil hjl hij hκ (by rw [C.lenN I]; exact (List.getElem?_eq_some_iff.mp hjN).1) C ?_
  unfold mSet at o
  cases e : mMark F mk un [j] i en with
  | bad => rw [e] at o; exact o
  | exc c x => rw [e] at o; exact fun Cc dd H' y => o Cc dd σ H' y
  | ok d en' =>
    rw [e] at o
    intro v Z' H' fps' fp C' h'
    exact o _ _ _ _ (C'.set h' g1 g2 (pin_ne P g3))
end
end Im
/-! x in xs, x not in xs: of data. -/
namespace Im
open PySem PySem.Spec PyProof.Rows L2
section
variable {X : Cx}
def rInG (K : PySem.W.Frag) (neg : Bool) : R2 := fun x y H Q => ∃ (d : PyData) (xs : List PyData), Dp K H x d ∧ (Dp K H y (.list xs) ∨ Dp K H y (.tuple xs)) ∧ PyData.canLayAll0 xs = true ∧ d.canLay0 = true ∧ PyData.depthAll xs ≤ 50 ∧ Q (.bl (neg ^^ (xs.any fun y => PyData.eqv y d))) H
theorem op_inD (hu : X.A.units + 64 < cLine) : OpR X (compareOp .In) (rInG X.K false) := by
  intro pins s σ H x y v u Q I rx ry h
  obtain ⟨d, xs, h1, h2, h3, h4, h5, q⟩ := h
  obtain ⟨as, r1⟩ := Dp.reads I d x v h1 rx
  have hm : min (PyData.depthAll xs) d.depth ≤ 50 := Nat.le_trans (Nat.min_le_left _ _) h5
  rcases h2 with h2 | h2
  · obtain ⟨bs, r2⟩ := Dp.reads I _ y u h2 ry
    exact SeqAt.in_list_reads r2 r1 h3 h4 (by omega) (fin_bl I q (by simp))
  · obtain ⟨bs, r2⟩ := Dp.reads I _ y u h2 ry
    exact SeqAt.in_tuple_reads r2 r1 h3 h4 (by omega) (fin_bl I q (by simp))
theorem op_notInD (hu : X.A.units + 64 < cLine) : OpR X (compareOp .NotIn) (rInG X.K true) := by
  intro pins s σ H x y v u Q I rx ry h
  obtain ⟨d, xs, h1, h2, h3, h4, h5, q⟩ := h
  obtain ⟨as, r1⟩ := Dp.reads I d x v h1 rx
  have hm : min (PyData.depthAll xs) d.depth ≤ 50 := Nat.le_trans (Nat.min_le_left _ _) h5
  rcases h2 with h2 | h2
  · obtain ⟨bs, r2⟩ := Dp.reads I _ y u h2 ry
    exact SeqAt.notIn_list_reads r2 r1 h3 h4 (by omega) (fin_bl I q (by simp))
  · obtain ⟨bs, r2⟩ := Dp.reads I _ y u h2 ry
    exact SeqAt.notIn_tuple_reads r2 r1 h3 h4 (by omega) (fin_bl I q (by simp))
def dInD (neg : Bool) : D → D → Option D := fun x y => match toP x, toP y with
  | some d, some (.list xs) => if PyData.canLayAll0 xs && d.canLay0 && decide (PyData.depthAll xs ≤ 50) then some (.bl (neg ^^ (xs.any fun y => PyData.eqv y d))) else none
  | some d, some (.tuple xs) => if PyData.canLayAll0 xs && d.canLay0 && decide (PyData.depthAll xs ≤ 50) then some (.bl (neg ^^ (xs.any fun y => PyData.eqv y d))) else none
  | _, _ => none
theorem lk_inD {G : GI} {K : PySem.W.Frag} {neg : Bool} (hK : G.K = K) : Lk2 G (rInG K neg) (dInD neg) := by
  intro H v1 v2 d1 d2 d Q ⟨_, _, _, o1⟩ ⟨_, _, _, o2⟩ e q
  unfold dInD at e
  split at e
  · rename_i p xs e1 e2
    split at e
    · rename_i c
      cases e
      rw [Bool.and_eq_true, Bool.and_eq_true] at c
      exact ⟨p, xs, own_dp hK o1 p e1, .inl (own_dp hK o2 _ e2), c.1.1, c.1.2, of_decide_eq_true c.2, q _ .bl⟩
    · cases e
  · rename_i p xs e1 e2
    split at e
    · rename_i c
      cases e
      rw [Bool.and_eq_true, Bool.and_eq_true] at c
      exact ⟨p, xs, own_dp hK o1 p e1, .inr (own_dp hK o2 _ e2), c.1.1, c.1.2, of_decide_eq_true c.2, q _ .bl⟩
    · cases e
  · cases e
end
end Im
/-! The head of a law in which lambdas are made: tables of code objects. -/
namespace Im
open PySem PySem.Spec PyProof.Rows L2
section
variable {P : Program} {w : World} {K : PySem.W.Frag} {mg mb : Str → Option Value} {k : Nat} {fa a : Addr} {fd : FuncData} {x : Str} {sp : Sp} {s₁ : Shared} {vs : List Value} {ns : List Int} {cs : List (Addr × Addr)}
/-- the code objects and their tables, empty so far -/
structure TabsIn (K : PySem.W.Frag) (h : Heap) (cs : List (Addr × Addr)) : Prop where
  emp : ∀ p ∈ cs, h.get? p.2 = some { cls := .none, data := .fields #[] }
  out : ∀ p ∈ cs, K.lookup p.2 = none
  hd : ∀ p ∈ cs, PySem.W.CodeHd h p.1 p.2
abbrev isTab (cs : List (Addr × Addr)) (b : Addr) : Prop := ∃ p ∈ cs, p.2 = b
theorem head_runT {H : Hp} (KX : K.In s₁.heap) (hns : s₁.heap.Ns mainGlobals mg) (hb : s₁.heap.Ns builtinsNs mb) (hbb : ∀ x : Str, x ≠ "__name__" → mb x = bootBuiltins x) (hlim : s₁.heap.NoLimit) (hg : s₁.gens = #[])
    (ha : s₁.heap.get? a = some { cls := .type "list", data := .seq vs.toArray }) (hr : Room k callerA) (TI : TabsIn K s₁.heap cs)
    (hbm : ∃ (bm : Addr) (ob : Obj), mg "__builtins__" = some (.ref bm) ∧ bm ≠ builtinsNs ∧ s₁.heap.get? bm = some ob ∧ ob.cls = .type "module" ∧ ob.dict = some builtinsNs ∧ ob.data = .plain)
    (F : ∀ base : Heap, K.In base → base.Ns mainGlobals mg → (∀ p ∈ cs, LamX.TabB base mg p.1 p.2) → FnG P w K mg base (L2.CX P w) k fa fd [x] sp) (hbind : ∀ (s : Shared) (u : Value), BindsTo s fd ⟨[u], []⟩ [(x, u)])
    (hsp : sp [.ref a] H (fun v _ => v = .bl true) fun _ _ _ => False) (hok : HOk P w H s₁.heap) (hT : ∀ p ∈ cs, H p.2 = some (.tbl #[])) (hA : ∀ b o, H b = some o → isTab cs b ∨ (b = a ∧ K.lookup a = none ∧ ∃ ob xs, o = .frz ob (.lst xs))) :
    codeAny (model P w) callerA (.call (.ref fa) ⟨[.ref a], []⟩) (fun r s' => r = .ok (.ret (.bool true)) ∧ OldK s₁.heap s'.heap ∧ s'.os = s₁.os ∧ AllBare s'.gens) s₁ := by
  have off : ∀ {b : Addr} {o : Obj}, s₁.heap.get? b = some o → (∀ xs n, o.data ≠ .seq xs n) → o.data ≠ .fields #[] → H b = none := fun {b o} e n1 n2 => by
    cases q : H b with
    | none => rfl
    | some u =>
      rcases hA b u q with ⟨p, hp, rfl⟩ | ⟨rfl, _⟩
      · rw [TI.emp p hp] at e; cases e
        exact absurd rfl n2
      · rw [ha] at e; cases e
        exact absurd rfl (n1 _ _)
  have names : ∀ {b : Addr} {m : Str → Option Value}, s₁.heap.Ns b m → (hidT s₁.heap H).Ns b m := fun {b m} ⟨o, es, ep, e, d, r⟩ => ⟨o, es, ep, hidT_get e (off e (fun _ _ z => by rw [d] at z; cases z) fun z => by rw [d] at z; cases z), d, r⟩
  have kin : K.In (hidT s₁.heap H) := fun b o e => hidT_get (KX b o e) (by
    cases q : H b with
    | none => rfl
    | some u =>
      rcases hA b u q with ⟨p, hp, rfl⟩ | ⟨rfl, n, _⟩
      · rw [TI.out p hp] at e; cases e
      · rw [n] at e; cases e)
  have mod : Mod K mg (hidT s₁.heap H) := ⟨kin, names hns, ⟨mb, names hb, hbb⟩, let ⟨mc, h1, h2⟩ := hlim; ⟨mc, names h1, h2⟩⟩
  have e0 : Env0 P w K mg (hidT s₁.heap H) callerA [] s₁ H := ⟨rfl, mod, fun b o e => of_hidT e, Nat.le_of_eq (hidT_size _ _), trivial, fun b hb => absurd (show b ∈ ([] : List Addr) from hb) (by simp), hok, .of_eq hg⟩
  have glob : ∀ b, s₁.heap.get? b = some { cls := .none, data := .fields #[] } → mainGlobals ≠ b := fun b e z => by
    obtain ⟨o, es, ep, e1, d, _⟩ := hns
    rw [z, e] at e1; cases e1; cases d
  have TB : ∀ p ∈ cs, LamX.TabB (hidT s₁.heap H) mg p.1 p.2 := fun p hp => by
    obtain ⟨o, us, file, tf, flags, tg, inF, text, tt, e1, r1, r2, r3, rest⟩ := TI.hd p hp
    obtain ⟨bm, ob, b1, b2, b3, b4, b5, b6⟩ := hbm
    refine ⟨⟨o, us, file, tf, flags, tg, inF, text, tt, hidT_get e1 (off e1 (fun _ _ z => by rw [r2] at z; cases z) fun z => ?_), r1, r2, r3, rest⟩, ⟨bm, ob, b1, b2, fun z => ?_, fun z => ?_, hidT_get b3 (off b3 (fun _ _ z => by rw [b6] at z; cases z) fun z => by rw [b6] at z; cases z), b4, b5, b6⟩, glob _ (TI.emp p hp)⟩
    · rw [r2] at z; cases z; cases r3
    · obtain ⟨o', es, ep, e2, d, _⟩ := hns
      rw [z, e2] at b3; cases b3
      rw [d] at b6; cases b6
    · rw [z, TI.emp p hp] at b3; cases b3; cases b6
  refine codeAny_mono ((F _ kin (names hns) TB).run callerA [] s₁ H ⟨[.ref a], []⟩ [.ref a] [.ref a] _ _ rfl hr e0 (hbind s₁ (.ref a)) (.cons rfl .nil) hsp) fun r s' h => ?_
  cases r with
  | error e =>
    obtain ⟨_, _, _, _, _, _, _, _, _, _, _, _, z⟩ := (show L2.CX P w [] H s₁ (fun _ _ _ => False) e s' from h)
    exact z.elim
  | ok fl =>
    cases fl with
    | next => exact False.elim h
    | brk => exact False.elim h
    | cont => exact False.elim h
    | ret u =>
      obtain ⟨v, H', os, bare, un, hok', r', q⟩ := h
      obtain rfl : v = .bl true := q
      obtain rfl : u = Value.bool true := r'
      have grown : ∀ b, isTab cs b → ∃ more : Array Value, s'.heap.get? b = some { cls := .none, data := .fields more } := fun b ⟨p, hp, z⟩ => by
        subst z
        obtain ⟨more, z⟩ := un.tbls p.2 #[] (hT p hp)
        exact ⟨_, hok' p.2 _ z⟩
      have kept : ∀ b o, ¬ isTab cs b → s₁.heap.get? b = some o → s'.heap.get? b = some o := fun b o nb e => by
        cases q : H b with
        | none => exact un.keep b o e q (by simp [frs]) (by simp)
        | some u =>
          rcases hA b u q with z | ⟨_, _, ob, xs, rfl⟩
          · exact absurd z nb
          · obtain ⟨e1, _⟩ := hok b _ q
            obtain ⟨e2, _⟩ := hok' b _ (un.frzs b ob _ q)
            rw [e] at e1; cases e1
            exact e2
      refine ⟨rfl, ⟨fun b o e => ?_, fun b o e => ?_⟩, os, bare⟩
      · by_cases t : isTab cs b
        · obtain ⟨more, hm⟩ := grown b t
          obtain ⟨p, hp, rfl⟩ := t
          have z := TI.emp p hp
          rw [e] at z; cases z
          exact .inr (.inl ⟨((TI.hd p hp).tab (TI.emp p hp)).isCodeTable, rfl, #[], more, rfl, by rw [Array.empty_append]; exact hm⟩)
        · exact .inl (kept b o t e)
      · by_cases t : isTab cs b
        · obtain ⟨more, hm⟩ := grown b t
          exact ⟨_, hm⟩
        · exact ⟨o, kept b o t e⟩
theorem head_callT (KX : K.In s₁.heap) (hns : s₁.heap.Ns mainGlobals mg) (hb : s₁.heap.Ns builtinsNs mb) (hbb : ∀ x : Str, x ≠ "__name__" → mb x = bootBuiltins x) (hlim : s₁.heap.NoLimit) (hg : s₁.gens = #[])
    (ha : s₁.heap.get? a = some { cls := .type "list", data := .seq vs.toArray }) (hi : IntsAre vs ns) (hl : ns.length ≤ sizeLine) (hr : Room k callerA) (TI : TabsIn K s₁.heap cs)
    (hbm : ∃ (bm : Addr) (ob : Obj), mg "__builtins__" = some (.ref bm) ∧ bm ≠ builtinsNs ∧ s₁.heap.get? bm = some ob ∧ ob.cls = .type "module" ∧ ob.dict = some builtinsNs ∧ ob.data = .plain)
    (F : ∀ base : Heap, K.In base → base.Ns mainGlobals mg → (∀ p ∈ cs, LamX.TabB base mg p.1 p.2) → FnG P w K mg base (L2.CX P w) k fa fd [x] sp) (hbind : ∀ (s : Shared) (u : Value), BindsTo s fd ⟨[u], []⟩ [(x, u)])
    (hsp : ∀ H : Hp, ScrAt K H a ns → (∀ p ∈ cs, H p.2 = some (.tbl #[])) → (∀ b ps, H b = some (.tbl ps) → isTab cs b) → sp [.ref a] H (fun v _ => v = .bl true) fun _ _ _ => False) :
    codeAny (model P w) callerA (.call (.ref fa) ⟨[.ref a], []⟩) (fun r s' => r = .ok (.ret (.bool true)) ∧ OldK s₁.heap s'.heap ∧ s'.os = s₁.os ∧ AllBare s'.gens) s₁ := by
  have rv := vals_ints hi
  have hn := hi.length
  have na : ¬ isTab cs a := fun ⟨p, hp, e⟩ => by
    have z := TI.emp p hp
    rw [e, ha] at z
    cases (congrArg Obj.data (Option.some.inj z) : Data.seq vs.toArray _ = Data.fields #[])
  cases hk : K.lookup a with
  | some o =>
    have e := KX a o hk
    rw [ha] at e
    cases e
    let Hq : Hp := fun b => open Classical in if isTab cs b then some (.tbl #[]) else none
    have h1 : ∀ b, isTab cs b → Hq b = some (.tbl #[]) := fun b t => if_pos t
    have h0 : ∀ b, ¬ isTab cs b → Hq b = none := fun b t => if_neg t
    have hA : ∀ b o, Hq b = some o → isTab cs b ∧ o = .tbl #[] := fun b o e => by
      by_cases t : isTab cs b
      · rw [h1 b t] at e; cases e; exact ⟨t, rfl⟩
      · rw [h0 b t] at e; cases e
    refine head_runT (H := Hq) KX hns hb hbb hlim hg ha hr TI hbm F hbind (hsp _ (.inr ⟨_, vs.toArray, _, hk, rfl, rfl, rfl, by rw [List.size_toArray, hn]; exact hl, by simpa using rv⟩) (fun p hp => h1 _ ⟨p, hp, rfl⟩) fun b ps e => (hA b _ e).1) (fun b u e => ?_) (fun p hp => h1 _ ⟨p, hp, rfl⟩) fun b o e => .inl (hA b o e).1
    obtain ⟨⟨p, hp, rfl⟩, rfl⟩ := hA b u e
    exact TI.emp p hp
  | none =>
    let Hq : Hp := fun b => open Classical in if b = a then some (.frz { cls := .type "list", data := .seq vs.toArray } (.lst (ns.map V.int))) else if isTab cs b then some (.tbl #[]) else none
    have ea : Hq a = some (.frz { cls := .type "list", data := .seq vs.toArray } (.lst (ns.map V.int))) := if_pos rfl
    have h1 : ∀ b, isTab cs b → Hq b = some (.tbl #[]) := fun b t => (if_neg fun (z : b = a) => na (z ▸ t)).trans (if_pos t)
    have h0 : ∀ b, b ≠ a → ¬ isTab cs b → Hq b = none := fun b z t => (if_neg z).trans (if_neg t)
    have hA : ∀ b o, Hq b = some o → (isTab cs b ∧ o = .tbl #[]) ∨ (b = a ∧ o = .frz { cls := .type "list", data := .seq vs.toArray } (.lst (ns.map V.int))) := fun b o e => by
      by_cases z : b = a
      · subst z; rw [ea] at e; cases e; exact .inr ⟨rfl, rfl⟩
      · by_cases t : isTab cs b
        · rw [h1 b t] at e; cases e; exact .inl ⟨t, rfl⟩
        · rw [h0 b z t] at e; cases e
    refine head_runT (H := Hq) KX hns hb hbb hlim hg ha hr TI hbm F hbind (hsp _ (.inl ⟨{ cls := .type "list", data := .seq vs.toArray }, ea⟩) (fun p hp => h1 _ ⟨p, hp, rfl⟩) fun b ps e => ?_) (fun b u e => ?_) (fun p hp => h1 _ ⟨p, hp, rfl⟩) fun b o e => ?_
    · rcases hA b _ e with z | ⟨_, z⟩
      · exact z.1
      · cases z
    · rcases hA b u e with ⟨⟨p, hp, rfl⟩, rfl⟩ | ⟨rfl, rfl⟩
      · exact TI.emp p hp
      · exact ⟨ha, by rw [List.length_map]; exact hl, vs, _, rv, ha⟩
    · rcases hA b o e with z | ⟨z, q⟩
      · exact .inl z.1
      · exact .inr ⟨z, hk, _, _, q⟩
/-- what the head finds of a law with tables -/
structure LawT (P : Program) (w : World) (K : PySem.W.Frag) (mg : Str → Option Value) (k : Nat) (x : Str) (fa : Addr) (h : Heap) (F : List D → FRes) where
  fd : FuncData
  Gw : GI
  cs : List (Addr × Addr)
  gK : Gw.K = K
  ti : TabsIn K h cs
  t1 : ∀ p ∈ cs, ∃ q, (p.2, q) ∈ Gw.T
  t2 : ∀ t ∈ Gw.T, ∃ p ∈ cs, p.2 = t.1
  bd : ∀ (s : Shared) (u : Value), BindsTo s fd ⟨[u], []⟩ [(x, u)]
  ok : ∀ base : Heap, K.In base → base.Ns mainGlobals mg → (∀ p ∈ cs, LamX.TabB base mg p.1 p.2) → FnG P w K mg base (L2.CX P w) k fa fd [x] (spI Gw ⟨[0], [], 0⟩ F)
theorem head_walkT {l : PySem.W.OpenLaw} {n k : Nat} {q : Program} {loose : List Str} {XP : (Str → Option Value) → Heap → Prop} {YP : World → Heap → Prop} {d : DefRec} {K : Params → PySem.W.Frag} {F : World → List D → FRes} {x : Str}
    (hn : l.most = some n) (hn2 : n ≤ sizeLine) (hdf : d.params.defaults = []) (hr : Room k callerA)
    {ts : List Addr} (hY : ∀ (w : World) (h : Heap), YP w h → (K w.params).In h ∧ ∀ P ∈ ts, h.get? P = some (PySem.W.tabObj #[]))
    (hF : ∀ (w : World) (mg : Str → Option Value) (fa : Addr) (h : Heap), (∀ P ∈ ts, h.get? P = some (PySem.W.tabObj #[])) → (K w.params).In h → h.Ns mainGlobals mg → mg d.name = some (.ref fa) → Nonempty (LawT l.prog w (K w.params) mg k x fa h (F w)))
    (hlaw : ∀ (w : World) (ns : List Int), ns.length ≤ n → ∃ ios, F w [.scr ns] = .ok (.bl true) ios) :
    PySem.W.WalkO q loose XP YP l.row.toRowW d [] (fun f vs => PySem.call f vs) := by
  refine Att.attach_call hn hdf fun w s₀ s₁ mg mb fa o pm cd doc a vs ns G Y ho hd hcd hmg hobj hints hlen hg => ?_
  obtain ⟨KX, hts⟩ := hY w _ Y
  obtain ⟨L⟩ := hF w mg fa _ hts KX G.T.g hmg
  refine head_callT KX G.T.g G.T.b G.T.builtins G.T.nolimit hg hobj hints (Nat.le_trans hlen hn2) hr L.ti G.T.bmain L.ok L.bd fun H hS hE hN => ?_
  obtain ⟨ios, hl⟩ := hlaw w ns hlen
  refine ⟨rfl, fun _ => False, [.scr ns], fun _ => [], ⟨fun _ z => z.elim, ⟨fun t ht => ?_, fun b ps z => ?_⟩⟩, ⟨fun j d e => ?_, rfl, fun _ _ => rfl, fun _ => List.nodup_nil, fun _ _ _ h => (nomatch h), fun _ _ h => (nomatch h)⟩, ?_⟩
  · obtain ⟨p, hp, e⟩ := L.t2 t ht
    exact LamX.TabS.nil (by rw [← e]; exact hE p hp)
  · obtain ⟨p, hp, rfl⟩ := hN b ps z
    exact L.t1 p hp
  · cases j with
    | zero =>
      cases e
      exact ⟨_, rfl, .scr (by rw [L.gK]; exact hS)⟩
    | succ j => cases e
  · rw [hl]
    intro v Z' H' fr f' x
    exact scv_bl x.own
end
end Im
/-! Defs that make lambdas: the code object of the frame is known. -/
namespace Im
open PySem PySem.Spec PyProof.Rows L2
section
variable {P : Program} {w : World} {K : PySem.W.Frag} {mg : Str → Option Value} {base : Heap} {x qual : Str} {st : Stmt} {fa : Addr} {fd : FuncData} {N ps : List Str} {k : Nat} {sg : Sg} {m : SM} {G : GI} {Γ' : List Nat}
theorem fnG_ofC {sp : Sp} (F : Fun K x qual st fa fd) (S : FnScope N ps (defScope st)) (len : ∀ vs H Q E, sp vs H Q E → vs.length = ps.length)
    (hbody : ∀ (cdv : Value), fd.code = cdv → ∀ (A : Around) (outer : List Env) (s : Shared) (H : Hp) (vs : List V) (Q : VK) (E : XK), A.guards = some [] → Room k (A.deeper (envOfC qual (defScope st) s.heap.objs.size fa cdv)) → sp vs H Q E →
      ∃ t, PSs (cxOf (L2.CX P w) P w K mg base N qual (defScope st) fa cdv A outer s H E) (defBody st) t ∧ t { nx := fun _ H' => Q .non H', rt := Q } (L2.start N vs) H) : FnG P w K mg base (L2.CX P w) (k + 1) fa fd ps sp := by
  obtain ⟨oc, od, kV, doc, pm, an, cdv, ct, osl, hfd, hl, hcd⟩ := F.ex
  have hc : fd.code = cdv := by rw [hfd]
  have key : FnG P w K mg base (L2.CX P w) (k + 1) fa fd ps (fun vs H Q E => sp vs H Q E) := by
    subst hfd
    refine ⟨len, fun A outer s H args us vs Q E hg hr e0 hb r hsp => ?_⟩
    have inK : K.In s.heap := e0.mod.kin.keeps fun b o e => (e0.bs b o e).1
    have noLim : s.heap.NoLimit := e0.mod.nolimit.keeps fun b o e => (e0.bs b o e).1
    have kinds : ∀ y ∈ ps.zip us, (defScope st).names.lookup y.1 = some .local ∨ ((defScope st).names.lookup y.1 = some .cell ∧ ((cellsFrom (s.heap.objs.size + 1) (defScope st).names []).lookup y.1).isSome = true) := fun y hy =>
      (S.par y.1 (List.of_mem_zip hy).1).imp id fun q => ⟨q, PySem.W.cellsFrom_some _ _ _ (.inl q)⟩
    obtain ⟨t, ht, hq⟩ := hbody cdv rfl A outer s H vs Q E hg (hr.deeper _) hsp
    refine codeAny_call_function hr.depth (inK _ _ hl) rfl S.co S.gen rfl (PySem.W.codeRec_of inK hcd) (hb _ _ _ _ (wpAny_newFunctionEnv_cells S.kind kinds fun env he s1 x => ?_))
    subst he
    refine ⟨noLim.keeps x.toInCall.keep, codeAny_func (wpAny_mono (ht.run [] s1 (L2.start N vs) H _ (inv_start S hr.hd e0 (len _ _ _ _ hsp) r x) hq) (fun fl s' hs => ?_) fun _ _ hs => hs)⟩
    cases fl with
    | ret u =>
      obtain ⟨v, σ', H', J, rv, q⟩ := hs
      exact ⟨v, H', J.os, J.bare, J.base, J.hok, rv, q⟩
    | next =>
      obtain ⟨σ', H', J, q⟩ := hs
      exact ⟨.non, H', J.os, J.bare, J.base, J.hok, rfl, q⟩
    | brk => obtain ⟨_, _, _, q⟩ := hs; exact q.elim
    | cont => obtain ⟨_, _, _, q⟩ := hs; exact q.elim
  exact key
/-- fn_im, the frame's code object known -/
theorem fn_imC {c : Addr} (F : Fun K x qual st fa fd) (hcode : fd.code = .ref c) (S : FnScope N ps (defScope st)) (hlen : sg.ks.length = ps.length) (hio : ioShort sg.io sg.ks.length = true) (hNl : sg.ks.length ≤ N.length)
    (hr : roOk ⟨sg.io, sg.κ⟩ Γ' = true ∨ ∀ ds en', m ds ≠ .nx en')
    (hbody : ∀ (A : Around) (outer : List Env) (s : Shared) (H : Hp) (E : XK), A.guards = some [] → Room k (A.deeper (envOfC qual (defScope st) s.heap.objs.size fa (.ref c))) →
      SsI (cxOf (L2.CX P w) P w K mg base N qual (defScope st) fa (.ref c) A outer s H E) G (fun c d _ H => E c d H) [] ⟨sg.io, sg.κ⟩ (sg.ks ++ List.replicate (N.length - sg.ks.length) 0) (defBody st) Γ' m) :
    FnG P w K mg base (L2.CX P w) (k + 1) fa fd ps (spI G sg (runF N.length sg.io m)) :=
  fnG_ofC F S (fun vs H Q E h => h.1.trans hlen) fun cdv hcv A outer s H vs Q E hgd hrm ⟨hl, Z, ds, f, zt, ha, he⟩ => by
    obtain rfl : Value.ref c = cdv := hcode.symm.trans hcv
    refine ⟨_, hbody A outer s H E hgd hrm, ?_⟩
    obtain ⟨pins, P1, P2, C⟩ := args_cfg (io := sg.io) (κ := sg.κ) hl hNl zt ha rfl
    refine ⟨_, Z, _, f, P1, C, ?_⟩
    unfold runF at he
    cases e : m (ds.map some ++ List.replicate (N.length - ds.length) none) with
    | bad => rw [e] at he; exact he
    | exc c x =>
      rw [e] at he
      exact fun Cc dd σ' H' y => he Cc dd H' ⟨y.cls, y.ex, y.keep, y.tab⟩
    | rt d en' =>
      rw [e] at he
      intro v σ' Z' H' fps' fp C' h'
      have C2 := C'.mask (io := sg.io) (fun i k q => by
        show (sg.io.map (·.getD 0)).getD i 0 = k
        rw [List.getD_eq_getElem?_getD, List.getElem?_map]
        rw [List.getD_eq_getElem?_getD] at q
        cases z : sg.io[i]? with
        | none => rw [z] at q; cases q
        | some y => rw [z] at q; simp at q; subst q; rfl) (fun i m => nomatch m)
      exact he _ _ _ _ _ (end_ok P2 (fun i hi => ioShort_of hio i (by omega)) C2 (fun i d q => (maskE_get q).2) (held_mask (en := en') h'))
    | nx en' =>
      rw [e] at he
      intro σ' Z' H' fps' C'
      rcases hr with hr | hr
      · have C2 := C'.mask (io := sg.io) (roOk_of hr) (fun i m => nomatch m)
        exact he _ _ _ [] _ (end_ok P2 (fun i hi => ioShort_of hio i (by omega)) C2 (fun i d q => (maskE_get q).2) ⟨.non, List.nodup_nil, (fun _ h => nomatch h), (fun _ h => nomatch h), (fun _ h => nomatch h)⟩)
      · exact absurd e (hr _ _)
end
def capB (sc : Scope) (L : Lam) (N : List Str) (is : List Nat) (fn : Str → Bool) : Bool :=
  LamX.lamSB sc L.scope && (L.scope.names.all fun y => !decide (y.2 = .free) || fn y.1) && (L.cap.all fun x => decide ((x, NameKind.free) ∈ L.scope.names)) && decide (is.length = L.cap.length) && ((is.zip L.cap).all fun p => decide (N[p.1]? = some p.2))
theorem capOk_by {X : Cx} {L : Lam} {is : List Nat} (h : capB X.env.scope L X.N is X.fn = true) : CapOk X L is := by
  unfold capB at h
  simp only [Bool.and_eq_true, Bool.or_eq_true, Bool.not_eq_true', decide_eq_true_eq, decide_eq_false_iff_not, List.all_eq_true] at h
  obtain ⟨⟨⟨⟨h1, h2⟩, h3⟩, h4⟩, h5⟩ := h
  refine ⟨LamX.lamS_by h1, fun y hy e => (h2 y hy).resolve_left fun z => z e, fun i x e => h3 x (List.mem_of_getElem? e), h4, fun i j x e1 e2 => ?_⟩
  refine h5 (j, x) (List.mem_of_getElem? (i := i) ?_)
  rw [List.getElem?_zip_eq_some]
  exact ⟨e1, e2⟩
theorem tabsIn_nil {K : PySem.W.Frag} {h : Heap} : TabsIn K h [] := ⟨(fun _ z => nomatch z), (fun _ z => nomatch z), (fun _ z => nomatch z)⟩
theorem tabsIn_cons {K : PySem.W.Frag} {h : Heap} {c P : Addr} {cs : List (Addr × Addr)} (X : K.In h) (hc : PySem.W.codeHdIn K c P = true) (hP : K.lookup P = none) (he : h.get? P = some (PySem.W.tabObj #[])) (r : TabsIn K h cs) : TabsIn K h ((c, P) :: cs) := by
  have h1 := PySem.W.codeHd_of_K X hc
  refine ⟨fun p hp => ?_, fun p hp => ?_, fun p hp => ?_⟩ <;> rcases List.mem_cons.mp hp with rfl | hp
  · exact he
  · exact r.emp p hp
  · exact hP
  · exact r.out p hp
  · exact h1
  · exact r.hd p hp
/-- no closures in a frame, but tables -/
def ClT.tabs (T : List (Addr × Str)) : ClT := ⟨T, fun _ _ _ _ => False, fun _ _ _ _ _ _ h => h⟩
/-- nothing is said -/
theorem ss_bad {X : Cx} {G : GI} {W : WX} {lk : List Nat} {ro : RO} {Γ Γ2 : List Nat} {l : List Stmt} : SsI X G W lk ro Γ l Γ2 (fun _ => .bad) := ⟨fun pins s σ H D I ⟨_, _, _, _, _, _, o⟩ => o.elim⟩
theorem MkOk.re {X Y : Cx} {T : List (Addr × Str)} {c P : Addr} (h : MkOk X T c P) (h1 : Y.base = X.base) (h2 : Y.mg = X.mg) (h3 : Y.env.code = X.env.code) (h4 : Y.env.qual = X.env.qual) : MkOk Y T c P :=
  ⟨by rw [h1, h2]; exact h.tb, by rw [h3]; exact h.code, by rw [h4]; exact h.mem, by rw [h4]; exact h.uni⟩
theorem hpm1 {α : Type} (l : List α) (h : l.length = 1) : permL [0] l = l := match l, h with | [_], _ => rfl
theorem hpm2 {α : Type} (l : List α) (h : l.length = 2) : permL [0, 1] l = l := match l, h with | [_, _], _ => rfl
theorem hpm3 {α : Type} (l : List α) (h : l.length = 3) : permL [0, 1, 2] l = l := match l, h with | [_, _, _], _ => rfl
theorem hpm4 {α : Type} (l : List α) (h : l.length = 4) : permL [0, 1, 2, 3] l = l := match l, h with | [_, _, _, _], _ => rfl
end Im
/-! sum(xs, []) of a list of lists. -/
namespace Im
open PySem PySem.Spec PyProof.Rows L2
theorem subL_str : isSubtype (.type "list") (.type "str") = pure false := by rw [isSubtype_type]; kernel_rfl
theorem subL_bytes : isSubtype (.type "list") (.type "bytes") = pure false := by rw [isSubtype_type]; kernel_rfl
theorem subL_barr : isSubtype (.type "list") (.type "bytearray") = pure false := by rw [isSubtype_type]; kernel_rfl
theorem args_sum2 (a b : Value) : argsOk "sum" ⟨[a, b], []⟩ := by unfold argsOk; kernel_rfl
section
variable {prog : Program} {w : World} {A : Around} {R : Result → Shared → Prop} {I ax S : Addr}
/-- the walk: the total stands at t -/
theorem sumL_loop (hh : A.handled = none) (hne : ax ≠ I) (hSI : S ≠ I) (hSx : S ≠ ax) (bs : List (Addr × List Value)) (hb : ∀ p ∈ bs, p.1 ≠ I ∧ p.1 ≠ S) :
    ∀ (k i : Nat) (s : Shared) (t : Addr) (acc : List Value) (n c : Nat), bs.length - i = k → i ≤ bs.length → s.heap.IsListIter I ax i → s.heap.IsList ax (bs.map fun p => Value.ref p.1).toArray →
      s.heap.get? S = some { cls := .type "list", dict := none, data := .seq #[.ref t] c, slots := #[] } → t ≠ I → t ≠ S → IsL s.heap t acc.toArray n → (∀ p ∈ bs, ∃ m, IsL s.heap p.1 p.2.toArray m) → acc.length + ((bs.drop i).flatMap (·.2)).length ≤ sizeLine →
      (∀ h' tk t' n', (∀ b o, b ≠ I → b ≠ S → s.heap.get? b = some o → h'.get? b = some o) → IsL h' t' (acc ++ (bs.drop i).flatMap (·.2)).toArray n' → ((t' = t ∧ bs.drop i = []) ∨ (s.heap.get? t' = none ∧ bs.drop i ≠ [])) → R (.ok (.ret (.ref t'))) { s with heap := h', toks := tk }) →
      codeAny (model prog w) A (.builtin "sum.loop" ⟨[.ref I, .ref S, rawInt 2, rawInt 0], []⟩) R s := by
  have W := (Walks.list (prog := prog) (w := w) (A := A.in1) hh I ax hne (bs.map fun p => Value.ref p.1).toArray)
  have hsz : (bs.map fun p => Value.ref p.1).toArray.size = bs.length := by simp
  intro k
  induction k with
  | zero =>
    intro i s t acc n c hk hi hit hl hS htI htS ht hbs hz hR
    have hin : i = bs.length := by omega
    subst hin
    refine codeAny_builtin F.entry_sum_loop ?_
    rw [Around.under_plainId F.plain_sum_loop _]
    show wpAny _ A.in1 (seqItems? (.ref S) >>= _) _ _ s
    refine wpAny_bind (wpAny_seqItems hS rfl ?_)
    show wpAny _ A.in1 (tryCatch (pyNext (.ref I)) _ >>= _) _ _ s
    refine wpAny_bind (wpAny_tryCatch (W.done s _ _ (by rw [hsz]; exact ⟨hit, hl⟩) fun h' tk hkp => ?_))
    have kp : ∀ b o, b ≠ I → s.heap.get? b = some o → h'.get? b = some o := fun b o h1 e => hkp b o (by simpa using h1) e
    refine wpAny_pure (hR h' tk t n (fun b o h1 _ e => kp b o h1 e) ?_ (.inl ⟨rfl, by simp⟩))
    rw [List.drop_length, List.flatMap_nil, List.append_nil]
    exact kp t _ htI ht
  | succ k ih =>
    intro i s t acc n c hk hi hit hl hS htI htS ht hbs hz hR
    have hlt : i < bs.length := by omega
    refine codeAny_builtin F.entry_sum_loop ?_
    rw [Around.under_plainId F.plain_sum_loop _]
    show wpAny _ A.in1 (seqItems? (.ref S) >>= _) _ _ s
    refine wpAny_bind (wpAny_seqItems hS rfl ?_)
    show wpAny _ A.in1 (tryCatch (pyNext (.ref I)) _ >>= _) _ _ s
    refine wpAny_bind (wpAny_tryCatch (W.item i s _ _ (by rw [hsz]; exact hlt) ⟨hit, hl⟩ fun v h1 tk hP hst hkp => ?_))
    have kp : ∀ b o, b ≠ I → s.heap.get? b = some o → h1.get? b = some o := fun b o h1 e => hkp b o (by simpa using h1) e
    obtain ⟨hit1, hl1⟩ := hst
    have ev : v = Value.ref bs[i].1 := by
      simp [List.getElem?_eq_getElem hlt] at hP
      exact hP.symm
    subst ev
    have hm := List.getElem_mem hlt
    have hbi := hb _ hm
    obtain ⟨m, hbm⟩ := hbs _ hm
    have ht1 := kp t _ htI ht
    have hb1 := kp _ _ hbi.1 hbm
    have hS1 := kp S _ hSI hS
    have hd : (bs.drop i).flatMap (·.2) = bs[i].2 ++ (bs.drop (i + 1)).flatMap (·.2) := by rw [List.drop_eq_getElem_cons hlt, List.flatMap_cons]
    have hz1 : acc.length + bs[i].2.length ≤ sizeLine := by
      rw [hd, List.length_append] at hz
      omega
    show wpAny _ A.in1 ((holding [Value.ref bs[i].1] (binaryOp .Add (.ref t) (.ref bs[i].1))).attempt >>= _) _ _ _
    refine wpAny_bind (wpAny_attempt (wpAny_holding (PySem.P.add_list ht1 hb1 ?_ (by simpa using hz1))))
    have e1 : acc.toArray ++ bs[i].2.toArray = (acc ++ bs[i].2).toArray := by simp
    rw [e1]
    generalize hh2 : h1.push { cls := .type "list", data := .seq (acc ++ bs[i].2).toArray } = h2
    have k2 : ∀ b o, h1.get? b = some o → h2.get? b = some o := fun b o e => by rw [← hh2]; exact Heap.get?_push_of_some _ e
    have t2 : IsL h2 h1.objs.size (acc ++ bs[i].2).toArray 0 := by rw [← hh2]; exact Heap.get?_push_size _ rfl
    have fr : ∀ b o, h1.get? b = some o → h1.objs.size ≠ b := fun b o e z => absurd (Heap.lt_size e) (by rw [← z]; exact Nat.lt_irrefl _)
    have hS2 := k2 _ _ hS1
    show wpAny _ A.in1 (updateSeq S (fun _ => #[.ref h1.objs.size]) >>= _) _ _ _
    refine wpAny_bind (wpAny_updateSeq hS2 rfl ?_)
    have hS3 := Heap.get?_update_self (Obj.mapSeq fun _ => #[Value.ref h1.objs.size]) hS2 rfl
    have k3 : ∀ b o, b ≠ S → h2.get? b = some o → (h2.update S (Obj.mapSeq fun _ => #[Value.ref h1.objs.size])).get? b = some o := fun b o hbS e => (Heap.get?_update_other _ _ (Ne.symm hbS)).trans e
    refine wpAny_bind (wpAny_letGo ?_)
    refine wpAny_bind (wpAny_updateSeq hS3 rfl ?_)
    have hS4 := Heap.get?_update_self (Obj.mapSeq fun _ => #[Value.ref h1.objs.size]) hS3 rfl
    have k4 : ∀ b o, b ≠ S → h2.get? b = some o → ((h2.update S (Obj.mapSeq fun _ => #[Value.ref h1.objs.size])).update S (Obj.mapSeq fun _ => #[Value.ref h1.objs.size])).get? b = some o := fun b o hbS e => (Heap.get?_update_other _ _ (Ne.symm hbS)).trans (k3 b o hbS e)
    have tne : h1.objs.size ≠ S := fr _ _ hS1
    refine wpAny_pure ⟨plainId_quiet F.plain_sum_loop _, ih (i + 1) _ h1.objs.size (acc ++ bs[i].2) 0 _ (by omega) hlt (hit1.at fun o e => k4 I o (Ne.symm hSI) (k2 _ _ e)) (hl1.at fun o e => k4 ax o (Ne.symm hSx) (k2 _ _ e)) hS4 (fun z => ?_) tne (k4 _ _ tne t2) (fun p hp => ?_) ?_ fun h' tk' t' n' hkp' hL' hor => ?_⟩
    · obtain ⟨o, ho, _⟩ := hit1
      exact fr _ _ ho z
    · obtain ⟨m', hm'⟩ := hbs p hp
      exact ⟨m', k4 _ _ (hb p hp).2 (k2 _ _ (kp _ _ (hb p hp).1 hm'))⟩
    · rw [hd, List.length_append] at hz
      rw [List.length_append]
      omega
    · refine hR h' tk' t' n' (fun b o h1' h2' e => hkp' b o h1' h2' (k4 b o h2' (k2 _ _ (kp b o h1' e)))) ?_ (.inr ⟨?_, ?_⟩)
      · rw [hd, ← List.append_assoc]; exact hL'
      · have iS : ∃ o, s.heap.get? I = some o := by
          obtain ⟨o, ho, _⟩ := hit
          exact ⟨o, ho⟩
        have nI : t' ≠ I := fun z => by
          rcases hor with ⟨z1, _⟩ | ⟨z1, _⟩
          · obtain ⟨o, ho, _⟩ := hit1
            exact fr _ _ ho (z1.symm.trans z)
          · obtain ⟨o, ho, _⟩ := hit1
            rw [z, k4 I o (Ne.symm hSI) (k2 _ _ ho)] at z1; cases z1
        have nS : t' ≠ S := fun z => by
          rcases hor with ⟨z1, _⟩ | ⟨z1, _⟩
          · exact tne (z1.symm.trans z)
          · rw [z, hS4] at z1; cases z1
        cases q : s.heap.get? t' with
        | none => rfl
        | some o =>
          have q1 := kp t' o nI q
          rcases hor with ⟨z1, _⟩ | ⟨z1, _⟩
          · exact absurd z1.symm (fr _ _ q1)
          · rw [k4 t' o nS (k2 _ _ q1)] at z1; cases z1
      · intro z
        rw [List.drop_eq_getElem_cons hlt] at z
        cases z
end
section
variable {prog : Program} {w : World} {A : Around} {E : Value → Shared → Prop} {s : Shared}
theorem call_sumL {a b : Addr} {Q : Value → Shared → Prop} (hh : A.handled = none) (bs : List (Addr × List Value)) (n : Nat) (hl : s.heap.IsList a (bs.map fun p => Value.ref p.1).toArray) (hb : IsL s.heap b (#[] : Array Value) n) (hbs : ∀ p ∈ bs, ∃ m, IsL s.heap p.1 p.2.toArray m) (hz : (bs.flatMap (·.2)).length ≤ sizeLine)
    (hR : ∀ h' tk t' n', (∀ c o, s.heap.get? c = some o → h'.get? c = some o) → IsL h' t' (bs.flatMap (·.2)).toArray n' → ((t' = b ∧ bs = []) ∨ (s.heap.get? t' = none ∧ bs ≠ [])) → Q (.ref t') { s with heap := h', toks := tk }) :
    wpAny (model prog w) A (call (.builtin "sum") [.ref a, .ref b]) Q E s := by
  refine call_function_tree F.kind_sum F.plain_sum F.entry_sum (args_sum2 _ _) ?_
  unfold Builtin.«sum»
  simp only [List.length_cons, List.length_nil]
  rw [if_neg (by decide)]
  refine wpAny_bind (wpAny_of_eq (show Builtin.Builtins.bindParams "sum" ["start"] 0 ⟨[.ref b], []⟩ = pure [some (.ref b)] from rfl) ?_)
  refine wpAny_bind (wpAny_pyIter_list hl ?_)
  generalize hh1 : s.heap.push { cls := .type "list_iterator", data := .fields #[.ref a, .int 0 0] } = h1
  have k1 : ∀ c o, s.heap.get? c = some o → h1.get? c = some o := fun c o e => by rw [← hh1]; exact Heap.get?_push_of_some _ e
  have hI : h1.IsListIter s.heap.objs.size a 0 := by rw [← hh1]; exact ⟨_, Heap.get?_push_size _ rfl, rfl, rfl⟩
  have fr0 : ∀ c o, s.heap.get? c = some o → c ≠ s.heap.objs.size := fun c o e z => absurd (Heap.lt_size e) (by rw [← z]; exact Nat.lt_irrefl _)
  have hb1 := k1 _ _ hb
  have ty : ({ s with heap := h1 } : Shared).TypeIs (.ref b) "list" := ⟨_, hb1, rfl⟩
  refine wpAny_bind (wpAny_pure ?_)
  simp only [List.forIn_cons, List.forIn_nil]
  refine wpAny_bind (wpAny_bind (wpAny_bind (wpAny_isInstance (T := "list") (b := false) ty subL_str ?_)))
  simp only [Bool.false_eq_true, if_false]
  refine wpAny_pure (wpAny_bind (wpAny_bind (wpAny_isInstance (T := "list") (b := false) ty subL_bytes ?_)))
  simp only [Bool.false_eq_true, if_false]
  refine wpAny_pure (wpAny_bind (wpAny_bind (wpAny_isInstance (T := "list") (b := false) ty subL_barr ?_)))
  simp only [Bool.false_eq_true, if_false]
  refine wpAny_pure (wpAny_pure ?_)
  refine wpAny_bind (wpAny_newObj_type ?_)
  generalize hh2 : h1.push { cls := .type "list", data := .seq [Value.ref b].toArray } = h2
  have k2 : ∀ c o, h1.get? c = some o → h2.get? c = some o := fun c o e => by rw [← hh2]; exact Heap.get?_push_of_some _ e
  have hS : h2.get? h1.objs.size = some { cls := .type "list", dict := none, data := .seq #[Value.ref b] 0, slots := #[] } := by rw [← hh2]; exact Heap.get?_push_size _ rfl
  have fr1 : ∀ c o, h1.get? c = some o → c ≠ h1.objs.size := fun c o e z => absurd (Heap.lt_size e) (by rw [← z]; exact Nat.lt_irrefl _)
  obtain ⟨oa, ea, _⟩ := hl
  have hIo : ∃ o, h1.get? s.heap.objs.size = some o := by
    obtain ⟨o, e, _⟩ := hI
    exact ⟨o, e⟩
  obtain ⟨oI, eI⟩ := hIo
  refine wpAny_pure ⟨plainId_quiet F.plain_sum_loop _, sumL_loop (I := s.heap.objs.size) (ax := a) (S := h1.objs.size) hh (fr0 a _ ea) (fr1 _ _ eI).symm (fr1 a _ (k1 _ _ ea)).symm bs (fun p hp => ?_) bs.length 0 _ b [] n 0 (Nat.sub_zero _) (Nat.zero_le _) (hI.at fun o e => k2 _ _ e) ⟨oa, k2 _ _ (k1 _ _ ea), by assumption⟩ hS (fr0 b _ hb) (fr1 b _ hb1) (k2 _ _ hb1) (fun p hp => ?_) (by simpa using hz) fun h' tk t' n' hk hL hor => ?_⟩
  · obtain ⟨m, hm⟩ := hbs p hp
    exact ⟨fr0 _ _ hm, fr1 _ _ (k1 _ _ hm)⟩
  · obtain ⟨m, hm⟩ := hbs p hp
    exact ⟨m, k2 _ _ (k1 _ _ hm)⟩
  · refine hR h' tk t' n' (fun c o e => hk c o (fr0 c o e) (fr1 c o (k1 c o e)) (k2 _ _ (k1 _ _ e))) (by simpa using hL) ?_
    rcases hor with ⟨z1, z2⟩ | ⟨z1, z2⟩
    · exact .inl ⟨z1, by simpa using z2⟩
    · refine .inr ⟨?_, by simpa using z2⟩
      cases q : s.heap.get? t' with
      | none => rfl
      | some o =>
        have z1 : h2.get? t' = none := z1
        rw [k2 _ _ (k1 _ _ q)] at z1; cases z1
end
section
variable {X : Cx}
def rSumL (K : PySem.W.Frag) : List V → Hp → VK → Prop := fun vs H Q => ∃ (a b : Addr) (ls : List (Addr × List V)), vs = [.ref a, .ref b] ∧ SqL K H a (ls.map fun p => V.ref p.1) ∧ H b = some (.lst []) ∧ (∀ p ∈ ls, H p.1 = some (.lst p.2)) ∧ (ls.flatMap (·.2)).length ≤ sizeLine ∧
  (ls = [] → Q (.ref b) H) ∧ (ls ≠ [] → ∀ p, H p = none → Q (.ref p) (upd H p (.lst (ls.flatMap (·.2)))))
theorem vals_refs : ∀ {ls : List (Addr × List V)} {us : List Value}, Vals (ls.map fun p => V.ref p.1) us → us = ls.map fun p => Value.ref p.1
  | [], us, h => by cases h; rfl
  | p :: ls, us, h => by
    cases h with
    | cons r t =>
      cases (show _ = Value.ref p.1 from r)
      rw [vals_refs t]; rfl
theorem cr_sumL (hc : X.calm = true) : CallR X (.builtin "sum") (rSumL X.K) := by
  intro pins s σ H vs us Q I r h
  obtain ⟨a, b, ls, rfl, hs, hb, hl, hz, q1, q2⟩ := h
  obtain ⟨u, w, rfl, r1, r2⟩ := vals2 r
  obtain rfl : u = Value.ref a := r1
  obtain rfl : w = Value.ref b := r2
  obtain ⟨its, rv, pl, _⟩ := I.list hs
  have ei := vals_refs rv
  subst ei
  obtain ⟨_, ib, nb, rb, eb⟩ := (show ObjOk X.prog X.w H s.heap b (.lst []) from I.hok b _ hb)
  cases rb
  have key : ∀ l : List (Addr × List V), (∀ p ∈ l, H p.1 = some (.lst p.2)) → ∃ bs : List (Addr × List Value), (bs.map fun p => Value.ref p.1) = (l.map fun p => Value.ref p.1) ∧ (∀ p ∈ bs, ∃ m, IsL s.heap p.1 p.2.toArray m) ∧ Vals (l.flatMap (·.2)) (bs.flatMap (·.2)) := by
    intro l
    induction l with
    | nil => intro _; exact ⟨[], rfl, (fun _ h => nomatch h), .nil⟩
    | cons p l ih =>
      intro h
      obtain ⟨bs, e1, e2, e3⟩ := ih fun q hq => h q (List.mem_cons_of_mem _ hq)
      obtain ⟨_, ip, np, rp, ep⟩ := (show ObjOk X.prog X.w H s.heap p.1 (.lst p.2) from I.hok p.1 _ (h p List.mem_cons_self))
      refine ⟨(p.1, ip) :: bs, by rw [List.map_cons, List.map_cons, e1], fun q hq => ?_, ?_⟩
      · rcases List.mem_cons.mp hq with rfl | hq
        · exact ⟨np, ep⟩
        · exact e2 q hq
      · rw [List.flatMap_cons, List.flatMap_cons]
        exact rp.append e3
  obtain ⟨bs, e1, e2, e3⟩ := key ls hl
  have hlen := e3.length
  have hln : bs.length = ls.length := by
    have := congrArg List.length e1
    simpa using this
  refine call_sumL (I.ok.hd hc) bs nb (by rw [e1]; exact pl.isList) eb e2 (by rw [← hlen]; exact hz) fun h' tk t' n' hk hL hor => ?_
  rcases hor with ⟨rfl, z⟩ | ⟨z1, z2⟩
  · have : ls = [] := by
      rw [z] at hln
      exact List.eq_nil_of_length_eq_zero hln.symm
    exact ⟨.ref t', H, I.kept (h' := h') (t' := tk) hk, rfl, q1 this⟩
  · have hn := I.hok.gone z1
    refine ⟨.ref t', _, I.laidN (h' := h') (t' := tk) (o := .lst (ls.flatMap (·.2))) hk z1 hn ⟨hz, bs.flatMap (·.2), n', e3, hL⟩, rfl, q2 (fun z => ?_) t' hn⟩
    rw [z] at hln
    exact z2 (List.eq_nil_of_length_eq_zero hln)
def lstsD : List D → Option (List (List D))
  | [] => some []
  | .lst xs :: r => (lstsD r).map (xs :: ·)
  | _ => none
def dSumL : D → D → Option D
  | .lst xs, .lst [] => match lstsD xs with
    | some ls => if ls.flatten.length ≤ lim then some (.lst ls.flatten) else none
    | none => none
  | _, _ => none
variable {G : GI} {B : Bs} {W : WX} {lk L : List Nat} {Z : Addr → Prop} {σ : St} {H : Hp} {Γ Γ1 : List Nat} {fps : Nat → List Addr} {ma : EM} {a : Expr} {pos p lp : Pos}
theorem lsts_own : ∀ {xs : List D} {vs : List V} {ls : List (List D)}, OwnL G Z H 0 vs xs [] → lstsD xs = some ls → ∃ l : List (Addr × List V), vs = (l.map fun p => V.ref p.1) ∧ (∀ p ∈ l, H p.1 = some (.lst p.2)) ∧ OwnL G Z H 0 (l.flatMap (·.2)) ls.flatten [] := by
  intro xs
  induction xs with
  | nil => intro vs ls h e; cases h; cases e; exact ⟨[], rfl, (fun _ h => nomatch h), .nil⟩
  | cons x xs ih =>
    intro vs ls h e
    cases x with
    | lst ys =>
      unfold lstsD at e
      rw [Option.map_eq_some_iff] at e
      obtain ⟨ls', e', rfl⟩ := e
      generalize hf : ([] : List Addr) = f0 at h
      cases h with
      | cons h1 h2 =>
        rename_i v vs fp1 fp2
        obtain ⟨z1, z2⟩ := List.append_eq_nil_iff.mp hf.symm
        subst z1 z2
        obtain ⟨l, e1, e2, e3⟩ := ih h2 e'
        obtain ⟨a, ws, rfl, e4, o⟩ := own_lst0 h1
        refine ⟨(a, ws) :: l, by rw [e1]; rfl, fun q hq => ?_, ?_⟩
        · rcases List.mem_cons.mp hq with rfl | hq
          · exact e4
          · exact e2 q hq
        · rw [List.flatMap_cons, List.flatten_cons]
          exact o.append e3
    | _ => cases e
theorem ei_sumL (hc : X.calm = true) (hg : Gl X "sum") (hm : X.mg "sum" = none) (hv : bootBuiltins "sum" = some (.builtin "sum")) (ha : OI X G W lk Γ a (.v L) Γ1 ma)
    (he : starEach (a :: [.List [] lp]) X.env = (false, eval a X.env) :: starEach [.List [] lp] X.env := by rfl) (he2 : starEach [.List [] lp] X.env = (false, eval (.List [] lp) X.env) :: starEach [] X.env := by rfl) (hpl : (backTo pos (starEach [.List [] lp] X.env)).any (·.1) = false := by rfl) :
    EI X G W lk Γ (.Call (.Name "sum" p) [a, .List [] lp] [] pos) 1 [] Γ1 (mB dSumL ma (mLst mNil)) :=
  PE.imp (pe_callB (cr_sumL hc) hg hm hv (pa_cons ha (pa_cons (oi_of (ei_lst (κ := 0) ai_nil)) pa_nil he2) he) (by decide) (by decide) he hpl) fun σ H Q ⟨B, Z, en, fps, C, o⟩ => run2 (mda := .v L) (mdb := .e 1 []) (R := fun v1 v2 H2 => rSumL X.K [v1, v2] H2 Q) C (mB_cases o fun d1 d2 d v1 v2 Z2 H2 fps2 en2 ef C2 h1 ⟨fp, h2⟩ o => by
    unfold dSumL at ef
    split at ef
    · rename_i xs
      split at ef
      · rename_i ls el
        split at ef
        · rename_i hz
          cases ef
          obtain ⟨a, vs, rfl, e2, o1⟩ := Vw.lst h1
          obtain ⟨l, rfl, e3, o2⟩ := lsts_own o1 el
          obtain ⟨b, ws, fq, rfl, e4, o3, rfl⟩ := own_lstS h2.own
          cases o3
          refine ⟨a, b, l, rfl, .inl (.inl e2), e4, e3, by rw [o2.len]; exact lim_ok hz, fun z => ?_, fun _ q hq => ?_⟩
          · subst z
            generalize ls.flatten = f at o o2
            cases o2
            exact o _ _ _ _ _ C2 h2
          · exact o _ _ _ _ _ (C2.grow hq) (fresh_lst C2 o2 hq)
        · cases ef
      · cases ef
    · cases ef)
end
end Im
namespace Im
open PySem PySem.Spec PyProof.Rows L2
/-! ### the text -/
def top (i : Nat) : Stmt := PySem.Challenge.pw_pairedboards_k80_whole_positions_of_orde.main.body.getD i (.Pass ⟨0, 0, 0, 0⟩)
abbrev s_is_whole : Stmt := top 12
abbrev s_is_count : Stmt := top 13
abbrev s_is_letter : Stmt := top 17
abbrev s_is_word_by : Stmt := top 18
abbrev s_is_order_by : Stmt := top 19
abbrev s_check_order : Stmt := top 20
abbrev s_whole_product : Stmt := top 22
abbrev s_check_size : Stmt := top 23
abbrev s_code_by : Stmt := top 25
abbrev s_order_with : Stmt := top 26
abbrev s_order_position : Stmt := top 27
abbrev s_order_at : Stmt := top 28
abbrev s__law_hash : Stmt := top 30
abbrev s__law_random : Stmt := top 31
abbrev s__law_cell : Stmt := top 32
abbrev s__law_generator : Stmt := top 33
abbrev s__law_exact : Stmt := top 34
abbrev s__law_order : Stmt := top 35
abbrev s__law_marked : Stmt := top 36
abbrev s__law_caught : Stmt := top 37
abbrev s__law_all_caught : Stmt := top 38
abbrev s__law_bad_words : Stmt := top 39
abbrev s__law_drawn : Stmt := top 40
abbrev s__law_product : Stmt := top 41
abbrev s__law_factorial : Stmt := top 42
abbrev s__law_code : Stmt := top 43
abbrev s__law_bad_orders : Stmt := top 44
abbrev s__law_position : Stmt := top 45
abbrev s__law_all : Stmt := top 46
abbrev s__law_right : Stmt := top 47
abbrev s_law : Stmt := top 48
/-! ### the plain functions -/
def m_is_whole : SM := (mRet [none] (mAnd (m1 (dIsI "int") (mVar 0)) (mNot (m1 (dIsI "bool") (mVar 0)))))
abbrev sg_is_whole : Sg := ⟨[0], [none], 0⟩
def F_is_whole : List D → FRes := runF 1 [none] m_is_whole
def m_is_count : SM := (mRet [none] (mAnd (mCall F_is_whole [0] (mCons (mVar 0) mNil)) (mB dGe (mVar 0) (mC (.int 0)))))
abbrev sg_is_count : Sg := ⟨[0], [none], 0⟩
def F_is_count : List D → FRes := runF 1 [none] m_is_count
def m_is_letter : SM := (mRet [none] (mAnd (mCall F_is_whole [0] (mCons (mVar 0) mNil)) (mChain dLe dLe (mC (.int 1)) (mVar 0) (mC (.int 20)))))
abbrev sg_is_letter : Sg := ⟨[0], [none], 0⟩
def F_is_letter : List D → FRes := runF 1 [none] m_is_letter
def m_is_word_by : SM := (mRet [none] (mAnd (m1 (dIsI "list") (mVar 0)) (mAnd (mB dLe (m1 dLen (mVar 0)) (mC (.int 12))) (m1 dAll (mLc (mIt dItems (mVar 0)) (gSet 1) (mC (.bl true)) (mCall F_is_letter [0] (mCons (mVar 1) mNil)) [1])))))
abbrev sg_is_word_by : Sg := ⟨[0], [none], 0⟩
def F_is_word_by : List D → FRes := runF 2 [none] m_is_word_by
def m_is_order_by : SM := (mRet [none] (mAnd (mCall F_is_word_by [0] (mCons (mVar 0) mNil)) (mB (eqD false) (m1 dSorted (mVar 0)) (mB dRgL (mC (.int 1)) (mB dAddX (m1 dLen (mVar 0)) (mC (.int 1)))))))
abbrev sg_is_order_by : Sg := ⟨[0], [none], 0⟩
def F_is_order_by : List D → FRes := runF 1 [none] m_is_order_by
def m_check_order : SM := (mIfS (mNot (mCall F_is_order_by [0] (mCons (mVar 0) mNil))) (mRaise "InvalidOrder" (mVar 0)) mPass)
abbrev sg_check_order : Sg := ⟨[0], [none], 0⟩
def F_check_order : List D → FRes := runF 1 [none] m_check_order
def m_whole_product : SM := (mSeq (mSet 1 (mC (.int 1)))
  (mSeq (mFor (mIt dItems (mVar 0)) (gSet 2) (mSet 1 (mB dMulX (mVarS 1) (mVar 2))))
  (mRet [none] (mVarS 1))))
abbrev sg_whole_product : Sg := ⟨[0], [none], 0⟩
def F_whole_product : List D → FRes := runF 3 [none] m_whole_product
def m_check_size : SM := (mIfS (mOr (mNot (mCall F_is_whole [0] (mCons (mVar 0) mNil))) (mNot (mChain dLe dLe (mC (.int 0)) (mVar 0) (mC (.int 12))))) (mRaise "InvalidNumber" (mVar 0)) mPass)
abbrev sg_check_size : Sg := ⟨[0], [none], 0⟩
def F_check_size : List D → FRes := runF 1 [none] m_check_size
def m_code_by : SM := (mRet [none] (mLc (mIt dLst (mVar 0)) (mgTup 2 (gCons (gSet 1) (gCons (gSet 2) gNil))) (mC (.bl true)) (m1 dLen (mLc (mIt dItems (mSl (mVar 0) (mpS (mB dAddX (mVarS 1) (mC (.int 1)))) mpN)) (gSet 3) (mB dLt (mVar 3) (mVar 2)) (mVar 3) [3])) [1, 2]))
abbrev sg_code_by : Sg := ⟨[0], [none], 1⟩
def F_code_by : List D → FRes := runF 4 [none] m_code_by
def m_order_with : SM := (mSeq (mIfS (mOr (mNot (m1 (dIsI "list") (mVar 0))) (mOr (mB dGt (m1 dLen (mVar 0)) (mC (.int 12))) (mNot (m1 dAll (mLc (mIt dItems (mVar 0)) (gSet 3) (mC (.bl true)) (mCall F_is_count [0] (mCons (mVar 3) mNil)) [3]))))) (mRaise "InvalidList" (mVar 0)) mPass)
  (mSeq (mIfS (m1 dAny (mLc (mIt dLst (mVar 0)) (mgTup 2 (gCons (gSet 4) (gCons (gSet 3) gNil))) (mC (.bl true)) (mB dGe (mVar 3) (mB dSub (m1 dLen (mVar 0)) (mVarS 4))) [4, 3])) (mRaise "InvalidList" (mVar 0)) mPass)
  (mSeq (mPar 1 2 (mCons (mB dRgL (mC (.int 1)) (mB dAddX (m1 dLen (mVar 0)) (mC (.int 1)))) (mCons (mLst mNil) mNil)))
  (mSeq (mFor (mIt dItems (mVar 0)) (gSet 3) (mSeq (mDrop (mAppend 2 (mB dIx (mVar 1) (mVar 3))))
  (mSet 1 (mB dCat (mSl (mVar 1) mpN (mpS (mVar 3))) (mSl (mVar 1) (mpS (mB dAddX (mVar 3) (mC (.int 1)))) mpN)))))
  (mRet [none] (mMove 2))))))
abbrev sg_order_with : Sg := ⟨[0], [none], 1⟩
def F_order_with : List D → FRes := runF 5 [none] m_order_with
def m_order_position : SM := (mSeq (mDrop (mCall F_check_order [0] (mCons (mVar 0) mNil)))
  (mSeq (mSet 1 (mC (.int 0)))
  (mSeq (mFor (mIt dLst (mCall F_code_by [0] (mCons (mVar 0) mNil))) (mgTup 2 (gCons (gSet 2) (gCons (gSet 3) gNil))) (mSet 1 (mB dAddX (mVarS 1) (mB dMulX (mVar 3) (mCall F_whole_product [0] (mCons (mB dRgL (mC (.int 1)) (mB dSub (m1 dLen (mVar 0)) (mVarS 2))) mNil))))))
  (mRet [none] (mVarS 1)))))
abbrev sg_order_position : Sg := ⟨[0], [none], 0⟩
def F_order_position : List D → FRes := runF 4 [none] m_order_position
def m_order_at : SM := (mSeq (mDrop (mCall F_check_size [0] (mCons (mVar 0) mNil)))
  (mSeq (mIfS (mOr (mNot (mCall F_is_whole [0] (mCons (mVar 1) mNil))) (mNot (mChain dLe dLt (mC (.int 0)) (mVar 1) (mCall F_whole_product [0] (mCons (mB dRgL (mC (.int 1)) (mB dAddX (mVar 0) (mC (.int 1)))) mNil))))) (mRaise "InvalidNumber" (mVar 1)) mPass)
  (mSeq (mPar 2 3 (mCons (mVar 1) (mCons (mLst mNil) mNil)))
  (mSeq (mFor (mRng1 (mVar 0)) (gSet 4) (mSeq (mSet 5 (mCall F_whole_product [0] (mCons (mB dRgL (mC (.int 1)) (mB dSub (mVar 0) (mVarS 4))) mNil)))
  (mSeq (mDrop (mAppend 3 (mB dDiv (mVar 2) (mVar 5))))
  (mSet 2 (mB dSub (mVar 2) (mB dMulX (mB dDiv (mVar 2) (mVar 5)) (mVar 5)))))))
  (mRet [none, none] (mCall F_order_with [0] (mCons (mMove 3) mNil)))))))
abbrev sg_order_at : Sg := ⟨[0, 0], [none, none], 1⟩
def F_order_at : List D → FRes := runF 6 [none, none] m_order_at
def m__law_hash : SM := (mSeq (mSet 2 (mB dMod (m1 dInt (mB dAddX (mB dAddX (mB dMulX (mVarS 0) (mC (.int 48271))) (mB dMulX (mVarS 1) (mC (.int 69621)))) (mC (.int 11)))) (mC (.int 2147483647))))
  (mSeq (mSet 2 (mB dMod (m1 dInt (mB dAddX (mB dAddX (mB dMulX (mVarS 2) (mVarS 2)) (mB dMulX (mC (.int 62089)) (mVarS 1))) (mC (.int 131)))) (mC (.int 2147483629))))
  (mRet [none, none] (mB dMod (m1 dInt (mB dMulX (mVarS 2) (mB dAddX (mVarS 2) (mC (.int 40692))))) (mC (.int 2147483587))))))
abbrev sg__law_hash : Sg := ⟨[0, 0], [none, none], 0⟩
def F__law_hash : List D → FRes := runF 3 [none, none] m__law_hash
def m__law_random : SM := (mSeq (mIfS (mB dGt (mB dIx (mSee 0) (mC (.int 0))) (mC (.int 0))) (mSeq (mSet 2 (mB dMod (m1 dInt (mB dIx (mSee 0) (mC (.int 0)))) (mVarS 1)))
  (mSeq (mAsg (mB dDiv (mB dIx (mSee 0) (mC (.int 0))) (mVarS 1)) (gStore 0 (mC (.int 0))))
  (mRet [some 1, none] (mVarS 2)))) mPass)
  (mSeq (mSet 2 (mC (.int 0)))
  (mSeq (mFor (mRng1 (mB dAddX (mC (.int 1)) (mB dDiv (m1 dBits (mVarS 1)) (mC (.int 30))))) (gSet 3) (mSeq (mAsg (mB dAddX (mB dIx (mSee 0) (mC (.int 2))) (mC (.int 1))) (gStore 0 (mC (.int 2))))
  (mSet 2 (mB dAddX (mB dMulX (mVarS 2) (mC (.int 2147483587))) (mCall F__law_hash [0, 1] (mCons (mB dIx (mSee 0) (mC (.int 1))) (mCons (mB dIx (mSee 0) (mC (.int 2))) mNil)))))))
  (mRet [some 1, none] (mB dMod (m1 dInt (mVarS 2)) (mVarS 1))))))
abbrev sg__law_random : Sg := ⟨[1, 0], [some 1, none], 0⟩
def F__law_random : List D → FRes := runF 4 [some 1, none] m__law_random
def m__law_cell : SM := (mSeq (mIfS (mB dLt (mVarS 1) (m1 dLen (mVar 0))) (mRet [none, none] (mB dIx (mVar 0) (mVarS 1))) mPass)
  (mRet [none, none] (mB dMod (m1 dSum (mSl (mVar 0) mpN (mpS (mC (.int 1))))) (mC (.int 1000003)))))
abbrev sg__law_cell : Sg := ⟨[0, 0], [none, none], 0⟩
def F__law_cell : List D → FRes := runF 2 [none, none] m__law_cell
def m__law_generator : SM := (mSeq (mSet 2 (mCall F__law_cell [0, 1] (mCons (mVar 0) (mCons (mVarS 1) mNil))))
  (mRet [none, none] (mLst (mCons (mB dMod (m1 dInt (mB dMax (mB dSub (mVarS 2) (mB dPow (mC (.int 10)) (mC (.int 18)))) (mC (.int 0)))) (mB dPow (mB dPow (mC (.int 10)) (mC (.int 60))) (mC (.int 10)))) (mCons (mB dMod (m1 dInt (mVarS 2)) (mC (.int 2147483647))) (mCons (mB dMulX (mC (.int 1000)) (mVarS 1)) mNil))))))
abbrev sg__law_generator : Sg := ⟨[0, 0], [none, none], 1⟩
def F__law_generator : List D → FRes := runF 3 [none, none] m__law_generator
def m__law_exact : SM := (mRet [none, none] (mAnd (mB eqE (mVar 0) (mVar 1)) (mB eqE (m1 dReprE (mVar 0)) (m1 dReprE (mVar 1)))))
abbrev sg__law_exact : Sg := ⟨[0, 0], [none, none], 0⟩
def F__law_exact : List D → FRes := runF 2 [none, none] m__law_exact
def m__law_order : SM := (mSeq (mPar 2 3 (mCons (m1 dList (mVar 1)) (mCons (mLst mNil) mNil)))
  (mSeq (mFor (mRng1 (m1 dLen (mVar 1))) (gSet 4) (mDrop (mAppend 3 (mPopAt 2 (mCallR F__law_random [0, 1] 0 0 (mCons (mMove 0) (mCons (m1 dLen (mSee 2)) mNil)))))))
  (mRet [some 1, none] (mMove 3))))
abbrev sg__law_order : Sg := ⟨[1, 0], [some 1, none], 1⟩
def F__law_order : List D → FRes := runF 5 [some 1, none] m__law_order
def m_mk0 (Ft : List D → FRes) : SM := mSeq (mIfS (m1 (dIsI "list") (mVar 0)) (fun _ => .bad) mPass) (mRet [some 0] (mOr (mNot (m1 (dIsI "tuple") (mVar 0))) (mB (dInD true) (mC (.bl false)) (mMark Ft .tup unT' [2] 0))))
def F_mk0 : Nat → List D → FRes
  | 0 => fun _ => .bad
  | n + 1 => runF 3 [some 0] (m_mk0 (F_mk0 n))
def m_mk1 (Fi Ft : List D → FRes) : SM := mSeq (mIfS (m1 (dIsI "list") (mVar 0)) (mSeq (mIfS (mAnd (mB (eqD true) (mVar 0) (mLst mNil)) (mB (eqD false) (mB dIx (mVar 0) (mC (.int (-1)))) (mC (.str "marked")))) (mRet [some 1] (mC (.bl false))) mPass) (mSeq (mSet 1 (mMark Fi .lst unL [2] 0)) (mSeq (mDrop (mAppend 0 (mC (.str "marked")))) (mRet [some 1] (mB (dInD true) (mC (.bl false)) (mSee 1)))))) mPass) (mRet [some 1] (mOr (mNot (m1 (dIsI "tuple") (mVar 0))) (mB (dInD true) (mC (.bl false)) (mMark Ft .tup unT' [2] 0))))
def F_mk1 : Nat → List D → FRes
  | 0 => fun _ => .bad
  | n + 1 => runF 3 [some 1] (m_mk1 (F_mk0 n) (F_mk1 n))
def m_mk2 (Fi Ft : List D → FRes) : SM := mSeq (mIfS (m1 (dIsI "list") (mVar 0)) (mSeq (mIfS (mAnd (mB (eqD true) (mVar 0) (mLst mNil)) (mB (eqD false) (mB dIx (mVar 0) (mC (.int (-1)))) (mC (.str "marked")))) (mRet [some 2] (mC (.bl false))) mPass) (mSeq (mSet 1 (mMark Fi .lst unL [2] 0)) (mSeq (mDrop (mAppend 0 (mC (.str "marked")))) (mRet [some 2] (mB (dInD true) (mC (.bl false)) (mSee 1)))))) mPass) (mRet [some 2] (mOr (mNot (m1 (dIsI "tuple") (mVar 0))) (mB (dInD true) (mC (.bl false)) (mMark Ft .tup unT' [2] 0))))
def F_mk2 : Nat → List D → FRes
  | 0 => fun _ => .bad
  | n + 1 => runF 3 [some 2] (m_mk2 (F_mk1 n) (F_mk2 n))
abbrev sg__law_marked : Sg := ⟨[2], [some 2], 0⟩
def F__law_marked : List D → FRes := F_mk2 6
def m_lam0 : EM := (mCall F_order_at [0, 1] (mCons (mVar 0) (mCons (mC .non) mNil)))
def m_lam1 : EM := (mCall F_order_at [0, 1] (mCons (m1 dLen (mVar 1)) (mCons (mVar 0) mNil)))
def m_lam2 : EM := (mCall F_order_position [0] (mCons (mVar 0) mNil))
def CF : Nat → List D → FRes
  | 0 => fun ds => resC (m_lam0 (ds.map some))
  | 1 => fun ds => resC (m_lam1 (ds.map some))
  | 2 => fun ds => resC (m_lam2 (ds.map some))
  | _ => fun _ => .bad
def m__law_caught : SM := (mSeq (mSet 1 (mC .non))
  (mSeq (mTry [0, 0, 0, 0] 2 1 (mAct 0 CF))
  (mSeq (mSet 3 (mLst (mCons (m1 (dIsX "InvalidShape") (mVar 1)) (mCons (m1 (dIsX "InvalidBox") (mVar 1)) (mCons (m1 (dIsX "InvalidBoard") (mVar 1)) (mCons (m1 (dIsX "InvalidWord") (mVar 1)) (mCons (m1 (dIsX "InvalidOrder") (mVar 1)) mNil)))))))
  (mSeq (mSet 3 (mB dCat (mVar 3) (mLst (mCons (m1 (dIsX "InvalidNumber") (mVar 1)) (mCons (m1 (dIsX "InvalidList") (mVar 1)) (mCons (m1 (dIsX "Unlike") (mVar 1)) (mCons (m1 (dIsX "TooMany") (mVar 1)) mNil)))))))
  (mRet [none] (mLst (mCons (mVar 3) (mCons (mIf (mB dIsN (mVar 1) (mC .non)) (mC .non) (m1 dVal (mVar 1))) mNil))))))))
abbrev sg__law_caught : Sg := ⟨[0], [none], 0⟩
def F__law_caught : List D → FRes := runF 4 [none] m__law_caught
def m__law_all_caught : SM := (mRet [none, none, none] (mB (eqD false) (mLc (mIt dItems (mVar 0)) (gSet 3) (mNot (mCall F__law_exact [0, 1] (mCons (mCall F__law_caught [0] (mCons (mVar 3) mNil)) (mCons (mLst (mCons (mLc (mRng1 (mC (.int 9))) (gSet 4) (mC (.bl true)) (mB (eqD false) (mVarS 4) (mVar 1)) [4]) (mCons (mVar 2) mNil))) mNil)))) (mVar 3) [3]) (mLst mNil)))
abbrev sg__law_all_caught : Sg := ⟨[0, 0, 0], [none, none, none], 0⟩
def F__law_all_caught : List D → FRes := runF 5 [none, none, none] m__law_all_caught
def m__law_bad_words : SM := (mRet [] (mLst (mCons (mC .non) (mCons (mTup mNil) (mCons (mC .edict) (mCons (mTup (mCons (mC (.int 1)) (mCons (mC (.int 2)) mNil))) (mCons (mLst (mCons (mC (.int 0)) mNil)) (mCons (mLst (mCons (mC (.int 21)) mNil)) (mCons (mLst (mCons (mC (.bl true)) mNil)) (mCons (mLst (mCons (mC (.str "1")) mNil)) (mCons (mLst (mCons (mC .non) mNil)) (mCons (mB dRep (mLst (mCons (mC (.int 1)) mNil)) (mC (.int 13))) (mCons (mC (.str "word")) (mCons (mLst (mCons (mC (.int 1)) (mCons (mB dSub (mC (.int 0)) (mC (.int 1))) mNil))) (mCons (mLst (mCons (mLst (mCons (mC (.int 1)) mNil)) mNil)) (mCons (mC (.int 1)) mNil))))))))))))))))
abbrev sg__law_bad_words : Sg := ⟨[], [], 1⟩
def F__law_bad_words : List D → FRes := runF 0 [] m__law_bad_words
def m__law_drawn : SM := (mRet [some 1, none] (mCallR F__law_order [0, 1] 0 0 (mLate 0 (mCons (mB dRgL (mC (.int 1)) (mB dAddX (mC (.int 1)) (mCallR F__law_random [0, 1] 0 0 (mCons (mMove 0) (mCons (mB dAddX (mVar 1) (mC (.int 1))) mNil))))) mNil))))
abbrev sg__law_drawn : Sg := ⟨[1, 0], [some 1, none], 1⟩
def F__law_drawn : List D → FRes := runF 2 [some 1, none] m__law_drawn
def m__law_product : SM := (mSeq (mSet 1 (mC (.int 1)))
  (mSeq (mFor (mIt dItems (mVar 0)) (gSet 2) (mSet 1 (mB dMulX (mVarS 1) (mVar 2))))
  (mRet [none] (mVarS 1))))
abbrev sg__law_product : Sg := ⟨[0], [none], 0⟩
def F__law_product : List D → FRes := runF 3 [none] m__law_product
def m__law_factorial : SM := (mRet [none] (mCall F__law_product [0] (mCons (mB dRgL (mC (.int 1)) (mB dAddX (mVarS 0) (mC (.int 1)))) mNil)))
abbrev sg__law_factorial : Sg := ⟨[0], [none], 0⟩
def F__law_factorial : List D → FRes := runF 1 [none] m__law_factorial
def m__law_code : SM := (mRet [none] (mLc (mIt dLst (mVar 0)) (mgTup 2 (gCons (gSet 1) (gCons (gSet 2) gNil))) (mC (.bl true)) (m1 dLen (mLc (mIt dItems (mSl (mVar 0) (mpS (mB dAddX (mVarS 1) (mC (.int 1)))) mpN)) (gSet 3) (mB dLt (mVar 3) (mVar 2)) (mVar 3) [3])) [1, 2]))
abbrev sg__law_code : Sg := ⟨[0], [none], 1⟩
def F__law_code : List D → FRes := runF 4 [none] m__law_code
def m__law_bad_orders : SM := (mRet [] (mB dCat (mCall F__law_bad_words [] mNil) (mLst (mCons (mLst (mCons (mC (.int 2)) mNil)) (mCons (mLst (mCons (mC (.int 1)) (mCons (mC (.int 1)) mNil))) (mCons (mLst (mCons (mC (.int 1)) (mCons (mC (.int 3)) mNil))) (mCons (mLst (mCons (mC (.int 2)) (mCons (mC (.int 3)) (mCons (mC (.int 4)) mNil)))) (mCons (mLst (mCons (mC (.int 1)) (mCons (mC (.int 2)) (mCons (mC (.int 2)) mNil)))) mNil))))))))
abbrev sg__law_bad_orders : Sg := ⟨[], [], 1⟩
def F__law_bad_orders : List D → FRes := runF 0 [] m__law_bad_orders
def m__law_position : SM := (mSeq (mSet 1 (mC (.int 0)))
  (mSeq (mFor (mIt dLst (mCall F__law_code [0] (mCons (mVar 0) mNil))) (mgTup 2 (gCons (gSet 2) (gCons (gSet 3) gNil))) (mSet 1 (mB dAddX (mVarS 1) (mB dMulX (mVar 3) (mCall F__law_factorial [0] (mCons (mB dSub (mB dSub (m1 dLen (mVar 0)) (mVarS 2)) (mC (.int 1))) mNil))))))
  (mRet [none] (mVarS 1))))
abbrev sg__law_position : Sg := ⟨[0], [none], 0⟩
def F__law_position : List D → FRes := runF 4 [none] m__law_position
def m__law_all : SM := (mSeq (mSet 1 (mLst (mCons (mLst mNil) mNil)))
  (mSeq (mFor (mRng1 (mVar 0)) (gSet 2) (mSet 1 (mB dSumL (mLc (mIt dItems (mVar 1)) (gSet 3) (mC (.bl true)) (mLc (mRng2 (mC (.int 1)) (mB dAddX (mVar 0) (mC (.int 1)))) (gSet 4) (mB (dInD true) (mVarS 4) (mVar 3)) (mB dCat (mVar 3) (mLst (mCons (mVarS 4) mNil))) [4]) [3]) (mLst mNil))))
  (mRet [none] (mVar 1))))
abbrev sg__law_all : Sg := ⟨[0], [none], 0⟩
def F__law_all : List D → FRes := runF 5 [none] m__law_all
def m__law_right : SM := (mSeq (mSet 1 (mCallR F__law_drawn [0, 1] 0 0 (mCons (mMove 0) (mCons (mC (.int 12)) mNil))))
  (mSeq (mPar 2 3 (mCons (m1 dRepr (mVar 1)) (mCons (mCall F__law_position [0] (mCons (mVar 1) mNil)) mNil)))
  (mSeq (mIfS (mNot (mCall F__law_exact [0, 1] (mCons (mLst (mCons (mCall F_order_position [0] (mCons (mVar 1) mNil)) (mCons (mCall F_order_position [0] (mCons (mVar 1) mNil)) mNil))) (mCons (mLst (mCons (mVar 3) (mCons (mVar 3) mNil))) mNil)))) (mRet [some 1] (mC (.bl false))) mPass)
  (mSeq (mSet 4 (mLst (mCons (mCall F_order_at [0, 1] (mCons (m1 dLen (mVar 1)) (mCons (mVar 3) mNil))) (mCons (mCall F_order_at [1, 0] (mCons (mVar 3) (mCons (m1 dLen (mVar 1)) mNil))) mNil))))
  (mSeq (mIfS (mOr (mNot (mCall F__law_exact [0, 1] (mCons (mVar 4) (mCons (mLst (mCons (mVar 1) (mCons (mVar 1) mNil))) mNil)))) (mOr (mNot (mCallR F__law_marked [0] 4 0 (mCons (mMove 4) mNil))) (mB (eqD true) (m1 dRepr (mVar 1)) (mVarS 2)))) (mRet [some 1] (mC (.bl false))) mPass)
  (mSeq (mSet 5 (mCallR F__law_random [0, 1] 0 0 (mCons (mMove 0) (mCons (mC (.int 5)) mNil))))
  (mSeq (mIfS (mB (eqD true) (mLc (mRng1 (mCall F__law_factorial [0] (mCons (mVarS 5) mNil))) (gSet 7) (mC (.bl true)) (mCall F_order_at [0, 1] (mCons (mVarS 5) (mCons (mVarS 7) mNil))) [7]) (mCall F__law_all [0] (mCons (mVarS 5) mNil))) (mRet [some 1] (mC (.bl false))) mPass)
  (mSeq (mFor (mIt dItems (mLst (mCons (mC .non) (mCons (mB dSub (mC (.int 0)) (mC (.int 1))) (mCons (mC (.int 13)) (mCons (mC (.bl true)) (mCons (mC (.str "1")) (mCons (mLst (mCons (mC (.int 1)) mNil)) (mCons (mTup (mCons (mC (.int 1)) (mCons (mC (.int 1)) mNil))) mNil))))))))) (gSet 6) (mIfS (mNot (mCallC F__law_all_caught [(0, [6])] (mCons (mC (.int 5)) (mCons (mVar 6) mNil)))) (mRet [some 1] (mC (.bl false))) mPass))
  (mSeq (mFor (mIt dItems (mLst (mCons (mC .non) (mCons (mB dSub (mC (.int 0)) (mC (.int 1))) (mCons (mCall F__law_factorial [0] (mCons (m1 dLen (mVar 1)) mNil)) (mCons (mC (.bl true)) (mCons (mC (.str "0")) (mCons (mLst (mCons (mC (.int 0)) mNil)) mNil)))))))) (gSet 6) (mIfS (mNot (mCallC F__law_all_caught [(1, [6, 1])] (mCons (mC (.int 5)) (mCons (mVar 6) mNil)))) (mRet [some 1] (mC (.bl false))) mPass))
  (mRet [some 1] (mB (eqD false) (mLc (mIt dItems (mCall F__law_bad_orders [] mNil)) (gSet 6) (mNot (mCallC F__law_all_caught [(2, [6])] (mCons (mC (.int 4)) (mCons (mVar 6) mNil)))) (mVar 6) [6]) (mLst mNil))))))))))))
abbrev sg__law_right : Sg := ⟨[1], [some 1], 0⟩
def F__law_right : List D → FRes := runF 8 [some 1] m__law_right
def m_law : SM := (mSeq (mFor (mRng1 (mC (.int 3))) (gSet 1) (mSeq (mSet 2 (mCall F__law_generator [0, 1] (mCons (mVar 0) (mCons (mVarS 1) mNil))))
  (mIfS (mOr (mNot (mCallR F__law_right [0] 2 0 (mCons (mMove 2) mNil))) (mNot (mCallR F__law_right [0] 2 0 (mCons (mMove 2) mNil)))) (mRet [] (mC (.bl false))) mPass)))
  (mRet [] (mC (.bl true))))
abbrev sg_law : Sg := ⟨[0], [], 0⟩
def F_law : List D → FRes := runF 3 [] m_law
/-! ### the lambdas -/
def lam_0 : Lam × Pos := pLam ["bad"] (pAt (pAt (pAt (pVal (pSt (pFor (pSt (defBody s__law_right) 7)) 0)) 0) 0) 0)
def lam_1 : Lam × Pos := pLam ["bad", "order"] (pAt (pAt (pAt (pVal (pSt (pFor (pSt (defBody s__law_right) 8)) 0)) 0) 0) 0)
def lam_2 : Lam × Pos := pLam ["bad"] (pAt (pAt (pAt (pAt (pAt (pVal (pSt (defBody s__law_right) 9)) 0) 0) 0) 0) 0)
def LT : Nat → Option Lam
  | 0 => some lam_0.1
  | 1 => some lam_1.1
  | 2 => some lam_2.1
  | _ => none
abbrev kLam : Nat := 8
/-! ### what the written part says -/
structure Ad where
  a_is_whole : Addr
  d_is_whole : FuncData
  a_is_count : Addr
  d_is_count : FuncData
  a_is_letter : Addr
  d_is_letter : FuncData
  a_is_word_by : Addr
  d_is_word_by : FuncData
  a_is_order_by : Addr
  d_is_order_by : FuncData
  a_check_order : Addr
  d_check_order : FuncData
  a_whole_product : Addr
  d_whole_product : FuncData
  a_check_size : Addr
  d_check_size : FuncData
  a_code_by : Addr
  d_code_by : FuncData
  a_order_with : Addr
  d_order_with : FuncData
  a_order_position : Addr
  d_order_position : FuncData
  a_order_at : Addr
  d_order_at : FuncData
  a__law_hash : Addr
  d__law_hash : FuncData
  a__law_random : Addr
  d__law_random : FuncData
  a__law_cell : Addr
  d__law_cell : FuncData
  a__law_generator : Addr
  d__law_generator : FuncData
  a__law_exact : Addr
  d__law_exact : FuncData
  a__law_order : Addr
  d__law_order : FuncData
  a__law_marked : Addr
  d__law_marked : FuncData
  a__law_caught : Addr
  d__law_caught : FuncData
  a__law_all_caught : Addr
  d__law_all_caught : FuncData
  a__law_bad_words : Addr
  d__law_bad_words : FuncData
  a__law_drawn : Addr
  d__law_drawn : FuncData
  a__law_product : Addr
  d__law_product : FuncData
  a__law_factorial : Addr
  d__law_factorial : FuncData
  a__law_code : Addr
  d__law_code : FuncData
  a__law_bad_orders : Addr
  d__law_bad_orders : FuncData
  a__law_position : Addr
  d__law_position : FuncData
  a__law_all : Addr
  d__law_all : FuncData
  a__law_right : Addr
  d__law_right : FuncData
  a_law : Addr
  d_law : FuncData
  k__law_right : Addr
  p__law_right : Addr
  bD : Addr
  bI : Addr
  c_InvalidBoard : Addr
  c_InvalidBox : Addr
  c_InvalidList : Addr
  c_InvalidNumber : Addr
  c_InvalidOrder : Addr
  c_InvalidShape : Addr
  c_InvalidWord : Addr
  c_TooMany : Addr
  c_Unlike : Addr
def fnT (A : Ad) (x : Str) : Option Addr :=  none
def clT (A : Ad) (x : Str) : Option Addr := if x = "InvalidBoard" then some A.c_InvalidBoard else if x = "InvalidBox" then some A.c_InvalidBox else if x = "InvalidList" then some A.c_InvalidList else if x = "InvalidNumber" then some A.c_InvalidNumber else if x = "InvalidOrder" then some A.c_InvalidOrder else if x = "InvalidShape" then some A.c_InvalidShape else if x = "InvalidWord" then some A.c_InvalidWord else if x = "TooMany" then some A.c_TooMany else if x = "Unlike" then some A.c_Unlike else none
abbrev GG (K : PySem.W.Frag) (A : Ad) (cl : ClT) : GI := mkG K (fnT A) (clT A) cl
abbrev TT (A : Ad) : List (Addr × Str) := [(A.p__law_right, (envOfC "_law_right" (defScope s__law_right) 0 0 .none).qual ++ "<lambda>")]
abbrev CS (A : Ad) : List (Addr × Addr) := [(A.k__law_right, A.p__law_right)]
structure Txt (P : Program) (w : World) (K : PySem.W.Frag) (mg : Str → Option Value) (A : Ad) : Prop where
  g_is_whole : mg "is_whole" = some (.ref A.a_is_whole)
  F_is_whole : Fun K "is_whole" "is_whole" s_is_whole A.a_is_whole A.d_is_whole
  g_is_count : mg "is_count" = some (.ref A.a_is_count)
  F_is_count : Fun K "is_count" "is_count" s_is_count A.a_is_count A.d_is_count
  g_is_letter : mg "is_letter" = some (.ref A.a_is_letter)
  F_is_letter : Fun K "is_letter" "is_letter" s_is_letter A.a_is_letter A.d_is_letter
  g_is_word_by : mg "is_word_by" = some (.ref A.a_is_word_by)
  F_is_word_by : Fun K "is_word_by" "is_word_by" s_is_word_by A.a_is_word_by A.d_is_word_by
  g_is_order_by : mg "is_order_by" = some (.ref A.a_is_order_by)
  F_is_order_by : Fun K "is_order_by" "is_order_by" s_is_order_by A.a_is_order_by A.d_is_order_by
  g_check_order : mg "check_order" = some (.ref A.a_check_order)
  F_check_order : Fun K "check_order" "check_order" s_check_order A.a_check_order A.d_check_order
  g_whole_product : mg "whole_product" = some (.ref A.a_whole_product)
  F_whole_product : Fun K "whole_product" "whole_product" s_whole_product A.a_whole_product A.d_whole_product
  g_check_size : mg "check_size" = some (.ref A.a_check_size)
  F_check_size : Fun K "check_size" "check_size" s_check_size A.a_check_size A.d_check_size
  g_code_by : mg "code_by" = some (.ref A.a_code_by)
  F_code_by : Fun K "code_by" "code_by" s_code_by A.a_code_by A.d_code_by
  g_order_with : mg "order_with" = some (.ref A.a_order_with)
  F_order_with : Fun K "order_with" "order_with" s_order_with A.a_order_with A.d_order_with
  g_order_position : mg "order_position" = some (.ref A.a_order_position)
  F_order_position : Fun K "order_position" "order_position" s_order_position A.a_order_position A.d_order_position
  g_order_at : mg "order_at" = some (.ref A.a_order_at)
  F_order_at : Fun K "order_at" "order_at" s_order_at A.a_order_at A.d_order_at
  g__law_hash : mg "_law_hash" = some (.ref A.a__law_hash)
  F__law_hash : Fun K "_law_hash" "_law_hash" s__law_hash A.a__law_hash A.d__law_hash
  g__law_random : mg "_law_random" = some (.ref A.a__law_random)
  F__law_random : Fun K "_law_random" "_law_random" s__law_random A.a__law_random A.d__law_random
  g__law_cell : mg "_law_cell" = some (.ref A.a__law_cell)
  F__law_cell : Fun K "_law_cell" "_law_cell" s__law_cell A.a__law_cell A.d__law_cell
  g__law_generator : mg "_law_generator" = some (.ref A.a__law_generator)
  F__law_generator : Fun K "_law_generator" "_law_generator" s__law_generator A.a__law_generator A.d__law_generator
  g__law_exact : mg "_law_exact" = some (.ref A.a__law_exact)
  F__law_exact : Fun K "_law_exact" "_law_exact" s__law_exact A.a__law_exact A.d__law_exact
  g__law_order : mg "_law_order" = some (.ref A.a__law_order)
  F__law_order : Fun K "_law_order" "_law_order" s__law_order A.a__law_order A.d__law_order
  g__law_marked : mg "_law_marked" = some (.ref A.a__law_marked)
  F__law_marked : Fun K "_law_marked" "_law_marked" s__law_marked A.a__law_marked A.d__law_marked
  g__law_caught : mg "_law_caught" = some (.ref A.a__law_caught)
  F__law_caught : Fun K "_law_caught" "_law_caught" s__law_caught A.a__law_caught A.d__law_caught
  g__law_all_caught : mg "_law_all_caught" = some (.ref A.a__law_all_caught)
  F__law_all_caught : Fun K "_law_all_caught" "_law_all_caught" s__law_all_caught A.a__law_all_caught A.d__law_all_caught
  g__law_bad_words : mg "_law_bad_words" = some (.ref A.a__law_bad_words)
  F__law_bad_words : Fun K "_law_bad_words" "_law_bad_words" s__law_bad_words A.a__law_bad_words A.d__law_bad_words
  g__law_drawn : mg "_law_drawn" = some (.ref A.a__law_drawn)
  F__law_drawn : Fun K "_law_drawn" "_law_drawn" s__law_drawn A.a__law_drawn A.d__law_drawn
  g__law_product : mg "_law_product" = some (.ref A.a__law_product)
  F__law_product : Fun K "_law_product" "_law_product" s__law_product A.a__law_product A.d__law_product
  g__law_factorial : mg "_law_factorial" = some (.ref A.a__law_factorial)
  F__law_factorial : Fun K "_law_factorial" "_law_factorial" s__law_factorial A.a__law_factorial A.d__law_factorial
  g__law_code : mg "_law_code" = some (.ref A.a__law_code)
  F__law_code : Fun K "_law_code" "_law_code" s__law_code A.a__law_code A.d__law_code
  g__law_bad_orders : mg "_law_bad_orders" = some (.ref A.a__law_bad_orders)
  F__law_bad_orders : Fun K "_law_bad_orders" "_law_bad_orders" s__law_bad_orders A.a__law_bad_orders A.d__law_bad_orders
  g__law_position : mg "_law_position" = some (.ref A.a__law_position)
  F__law_position : Fun K "_law_position" "_law_position" s__law_position A.a__law_position A.d__law_position
  g__law_all : mg "_law_all" = some (.ref A.a__law_all)
  F__law_all : Fun K "_law_all" "_law_all" s__law_all A.a__law_all A.d__law_all
  g__law_right : mg "_law_right" = some (.ref A.a__law_right)
  F__law_right : Fun K "_law_right" "_law_right" s__law_right A.a__law_right A.d__law_right
  g_law : mg "law" = some (.ref A.a_law)
  F_law : Fun K "law" "law" s_law A.a_law A.d_law
  C__law_right : A.d__law_right.code = .ref A.k__law_right
  b_all : mg "all" = none
  b_any : mg "any" = none
  b_bool : mg "bool" = none
  b_enumerate : mg "enumerate" = none
  b_int : mg "int" = none
  b_isinstance : mg "isinstance" = none
  b_len : mg "len" = none
  b_list : mg "list" = none
  b_max : mg "max" = none
  b_range : mg "range" = none
  b_repr : mg "repr" = none
  b_sorted : mg "sorted" = none
  b_sum : mg "sum" = none
  b_tuple : mg "tuple" = none
  c_MOST_LENGTH : ∃ u, mg "MOST_LENGTH" = some u ∧ RelV (.int 12) u
  c_MOST_LETTER : ∃ u, mg "MOST_LETTER" = some u ∧ RelV (.int 20) u
  box : PySem.BoxX.BaseTxt K P A.bD A.bI
  k_BoxError : mg "BoxError" = some (.ref A.bD)
  k_InvalidBoard : mg "InvalidBoard" = some (.ref A.c_InvalidBoard)
  kt_InvalidBoard : PySem.BoxX.ClsTxt K A.bD A.bI A.c_InvalidBoard
  nk_InvalidBoard : PySem.W.kitOne K (.type "NoneType") (.ref A.c_InvalidBoard) = some false
  ec_InvalidBoard : ExcC K A.c_InvalidBoard
  k_InvalidBox : mg "InvalidBox" = some (.ref A.c_InvalidBox)
  kt_InvalidBox : PySem.BoxX.ClsTxt K A.bD A.bI A.c_InvalidBox
  nk_InvalidBox : PySem.W.kitOne K (.type "NoneType") (.ref A.c_InvalidBox) = some false
  ec_InvalidBox : ExcC K A.c_InvalidBox
  k_InvalidList : mg "InvalidList" = some (.ref A.c_InvalidList)
  kt_InvalidList : PySem.BoxX.ClsTxt K A.bD A.bI A.c_InvalidList
  nk_InvalidList : PySem.W.kitOne K (.type "NoneType") (.ref A.c_InvalidList) = some false
  ec_InvalidList : ExcC K A.c_InvalidList
  k_InvalidNumber : mg "InvalidNumber" = some (.ref A.c_InvalidNumber)
  kt_InvalidNumber : PySem.BoxX.ClsTxt K A.bD A.bI A.c_InvalidNumber
  nk_InvalidNumber : PySem.W.kitOne K (.type "NoneType") (.ref A.c_InvalidNumber) = some false
  ec_InvalidNumber : ExcC K A.c_InvalidNumber
  k_InvalidOrder : mg "InvalidOrder" = some (.ref A.c_InvalidOrder)
  kt_InvalidOrder : PySem.BoxX.ClsTxt K A.bD A.bI A.c_InvalidOrder
  nk_InvalidOrder : PySem.W.kitOne K (.type "NoneType") (.ref A.c_InvalidOrder) = some false
  ec_InvalidOrder : ExcC K A.c_InvalidOrder
  k_InvalidShape : mg "InvalidShape" = some (.ref A.c_InvalidShape)
  kt_InvalidShape : PySem.BoxX.ClsTxt K A.bD A.bI A.c_InvalidShape
  nk_InvalidShape : PySem.W.kitOne K (.type "NoneType") (.ref A.c_InvalidShape) = some false
  ec_InvalidShape : ExcC K A.c_InvalidShape
  k_InvalidWord : mg "InvalidWord" = some (.ref A.c_InvalidWord)
  kt_InvalidWord : PySem.BoxX.ClsTxt K A.bD A.bI A.c_InvalidWord
  nk_InvalidWord : PySem.W.kitOne K (.type "NoneType") (.ref A.c_InvalidWord) = some false
  ec_InvalidWord : ExcC K A.c_InvalidWord
  k_TooMany : mg "TooMany" = some (.ref A.c_TooMany)
  kt_TooMany : PySem.BoxX.ClsTxt K A.bD A.bI A.c_TooMany
  nk_TooMany : PySem.W.kitOne K (.type "NoneType") (.ref A.c_TooMany) = some false
  ec_TooMany : ExcC K A.c_TooMany
  k_Unlike : mg "Unlike" = some (.ref A.c_Unlike)
  kt_Unlike : PySem.BoxX.ClsTxt K A.bD A.bI A.c_Unlike
  nk_Unlike : PySem.W.kitOne K (.type "NoneType") (.ref A.c_Unlike) = some false
  ec_Unlike : ExcC K A.c_Unlike
  q_InvalidBoard_InvalidBoard : PySem.W.kitOne K (.ref A.c_InvalidBoard) (.ref A.c_InvalidBoard) = some (("InvalidBoard" : Str) == "InvalidBoard")
  q_InvalidBoard_InvalidBox : PySem.W.kitOne K (.ref A.c_InvalidBoard) (.ref A.c_InvalidBox) = some (("InvalidBoard" : Str) == "InvalidBox")
  q_InvalidBoard_InvalidList : PySem.W.kitOne K (.ref A.c_InvalidBoard) (.ref A.c_InvalidList) = some (("InvalidBoard" : Str) == "InvalidList")
  q_InvalidBoard_InvalidNumber : PySem.W.kitOne K (.ref A.c_InvalidBoard) (.ref A.c_InvalidNumber) = some (("InvalidBoard" : Str) == "InvalidNumber")
  q_InvalidBoard_InvalidOrder : PySem.W.kitOne K (.ref A.c_InvalidBoard) (.ref A.c_InvalidOrder) = some (("InvalidBoard" : Str) == "InvalidOrder")
  q_InvalidBoard_InvalidShape : PySem.W.kitOne K (.ref A.c_InvalidBoard) (.ref A.c_InvalidShape) = some (("InvalidBoard" : Str) == "InvalidShape")
  q_InvalidBoard_InvalidWord : PySem.W.kitOne K (.ref A.c_InvalidBoard) (.ref A.c_InvalidWord) = some (("InvalidBoard" : Str) == "InvalidWord")
  q_InvalidBoard_TooMany : PySem.W.kitOne K (.ref A.c_InvalidBoard) (.ref A.c_TooMany) = some (("InvalidBoard" : Str) == "TooMany")
  q_InvalidBoard_Unlike : PySem.W.kitOne K (.ref A.c_InvalidBoard) (.ref A.c_Unlike) = some (("InvalidBoard" : Str) == "Unlike")
  q_InvalidBox_InvalidBoard : PySem.W.kitOne K (.ref A.c_InvalidBox) (.ref A.c_InvalidBoard) = some (("InvalidBox" : Str) == "InvalidBoard")
  q_InvalidBox_InvalidBox : PySem.W.kitOne K (.ref A.c_InvalidBox) (.ref A.c_InvalidBox) = some (("InvalidBox" : Str) == "InvalidBox")
  q_InvalidBox_InvalidList : PySem.W.kitOne K (.ref A.c_InvalidBox) (.ref A.c_InvalidList) = some (("InvalidBox" : Str) == "InvalidList")
  q_InvalidBox_InvalidNumber : PySem.W.kitOne K (.ref A.c_InvalidBox) (.ref A.c_InvalidNumber) = some (("InvalidBox" : Str) == "InvalidNumber")
  q_InvalidBox_InvalidOrder : PySem.W.kitOne K (.ref A.c_InvalidBox) (.ref A.c_InvalidOrder) = some (("InvalidBox" : Str) == "InvalidOrder")
  q_InvalidBox_InvalidShape : PySem.W.kitOne K (.ref A.c_InvalidBox) (.ref A.c_InvalidShape) = some (("InvalidBox" : Str) == "InvalidShape")
  q_InvalidBox_InvalidWord : PySem.W.kitOne K (.ref A.c_InvalidBox) (.ref A.c_InvalidWord) = some (("InvalidBox" : Str) == "InvalidWord")
  q_InvalidBox_TooMany : PySem.W.kitOne K (.ref A.c_InvalidBox) (.ref A.c_TooMany) = some (("InvalidBox" : Str) == "TooMany")
  q_InvalidBox_Unlike : PySem.W.kitOne K (.ref A.c_InvalidBox) (.ref A.c_Unlike) = some (("InvalidBox" : Str) == "Unlike")
  q_InvalidList_InvalidBoard : PySem.W.kitOne K (.ref A.c_InvalidList) (.ref A.c_InvalidBoard) = some (("InvalidList" : Str) == "InvalidBoard")
  q_InvalidList_InvalidBox : PySem.W.kitOne K (.ref A.c_InvalidList) (.ref A.c_InvalidBox) = some (("InvalidList" : Str) == "InvalidBox")
  q_InvalidList_InvalidList : PySem.W.kitOne K (.ref A.c_InvalidList) (.ref A.c_InvalidList) = some (("InvalidList" : Str) == "InvalidList")
  q_InvalidList_InvalidNumber : PySem.W.kitOne K (.ref A.c_InvalidList) (.ref A.c_InvalidNumber) = some (("InvalidList" : Str) == "InvalidNumber")
  q_InvalidList_InvalidOrder : PySem.W.kitOne K (.ref A.c_InvalidList) (.ref A.c_InvalidOrder) = some (("InvalidList" : Str) == "InvalidOrder")
  q_InvalidList_InvalidShape : PySem.W.kitOne K (.ref A.c_InvalidList) (.ref A.c_InvalidShape) = some (("InvalidList" : Str) == "InvalidShape")
  q_InvalidList_InvalidWord : PySem.W.kitOne K (.ref A.c_InvalidList) (.ref A.c_InvalidWord) = some (("InvalidList" : Str) == "InvalidWord")
  q_InvalidList_TooMany : PySem.W.kitOne K (.ref A.c_InvalidList) (.ref A.c_TooMany) = some (("InvalidList" : Str) == "TooMany")
  q_InvalidList_Unlike : PySem.W.kitOne K (.ref A.c_InvalidList) (.ref A.c_Unlike) = some (("InvalidList" : Str) == "Unlike")
  q_InvalidNumber_InvalidBoard : PySem.W.kitOne K (.ref A.c_InvalidNumber) (.ref A.c_InvalidBoard) = some (("InvalidNumber" : Str) == "InvalidBoard")
  q_InvalidNumber_InvalidBox : PySem.W.kitOne K (.ref A.c_InvalidNumber) (.ref A.c_InvalidBox) = some (("InvalidNumber" : Str) == "InvalidBox")
  q_InvalidNumber_InvalidList : PySem.W.kitOne K (.ref A.c_InvalidNumber) (.ref A.c_InvalidList) = some (("InvalidNumber" : Str) == "InvalidList")
  q_InvalidNumber_InvalidNumber : PySem.W.kitOne K (.ref A.c_InvalidNumber) (.ref A.c_InvalidNumber) = some (("InvalidNumber" : Str) == "InvalidNumber")
  q_InvalidNumber_InvalidOrder : PySem.W.kitOne K (.ref A.c_InvalidNumber) (.ref A.c_InvalidOrder) = some (("InvalidNumber" : Str) == "InvalidOrder")
  q_InvalidNumber_InvalidShape : PySem.W.kitOne K (.ref A.c_InvalidNumber) (.ref A.c_InvalidShape) = some (("InvalidNumber" : Str) == "InvalidShape")
  q_InvalidNumber_InvalidWord : PySem.W.kitOne K (.ref A.c_InvalidNumber) (.ref A.c_InvalidWord) = some (("InvalidNumber" : Str) == "InvalidWord")
  q_InvalidNumber_TooMany : PySem.W.kitOne K (.ref A.c_InvalidNumber) (.ref A.c_TooMany) = some (("InvalidNumber" : Str) == "TooMany")
  q_InvalidNumber_Unlike : PySem.W.kitOne K (.ref A.c_InvalidNumber) (.ref A.c_Unlike) = some (("InvalidNumber" : Str) == "Unlike")
  q_InvalidOrder_InvalidBoard : PySem.W.kitOne K (.ref A.c_InvalidOrder) (.ref A.c_InvalidBoard) = some (("InvalidOrder" : Str) == "InvalidBoard")
  q_InvalidOrder_InvalidBox : PySem.W.kitOne K (.ref A.c_InvalidOrder) (.ref A.c_InvalidBox) = some (("InvalidOrder" : Str) == "InvalidBox")
  q_InvalidOrder_InvalidList : PySem.W.kitOne K (.ref A.c_InvalidOrder) (.ref A.c_InvalidList) = some (("InvalidOrder" : Str) == "InvalidList")
  q_InvalidOrder_InvalidNumber : PySem.W.kitOne K (.ref A.c_InvalidOrder) (.ref A.c_InvalidNumber) = some (("InvalidOrder" : Str) == "InvalidNumber")
  q_InvalidOrder_InvalidOrder : PySem.W.kitOne K (.ref A.c_InvalidOrder) (.ref A.c_InvalidOrder) = some (("InvalidOrder" : Str) == "InvalidOrder")
  q_InvalidOrder_InvalidShape : PySem.W.kitOne K (.ref A.c_InvalidOrder) (.ref A.c_InvalidShape) = some (("InvalidOrder" : Str) == "InvalidShape")
  q_InvalidOrder_InvalidWord : PySem.W.kitOne K (.ref A.c_InvalidOrder) (.ref A.c_InvalidWord) = some (("InvalidOrder" : Str) == "InvalidWord")
  q_InvalidOrder_TooMany : PySem.W.kitOne K (.ref A.c_InvalidOrder) (.ref A.c_TooMany) = some (("InvalidOrder" : Str) == "TooMany")
  q_InvalidOrder_Unlike : PySem.W.kitOne K (.ref A.c_InvalidOrder) (.ref A.c_Unlike) = some (("InvalidOrder" : Str) == "Unlike")
  q_InvalidShape_InvalidBoard : PySem.W.kitOne K (.ref A.c_InvalidShape) (.ref A.c_InvalidBoard) = some (("InvalidShape" : Str) == "InvalidBoard")
  q_InvalidShape_InvalidBox : PySem.W.kitOne K (.ref A.c_InvalidShape) (.ref A.c_InvalidBox) = some (("InvalidShape" : Str) == "InvalidBox")
  q_InvalidShape_InvalidList : PySem.W.kitOne K (.ref A.c_InvalidShape) (.ref A.c_InvalidList) = some (("InvalidShape" : Str) == "InvalidList")
  q_InvalidShape_InvalidNumber : PySem.W.kitOne K (.ref A.c_InvalidShape) (.ref A.c_InvalidNumber) = some (("InvalidShape" : Str) == "InvalidNumber")
  q_InvalidShape_InvalidOrder : PySem.W.kitOne K (.ref A.c_InvalidShape) (.ref A.c_InvalidOrder) = some (("InvalidShape" : Str) == "InvalidOrder")
  q_InvalidShape_InvalidShape : PySem.W.kitOne K (.ref A.c_InvalidShape) (.ref A.c_InvalidShape) = some (("InvalidShape" : Str) == "InvalidShape")
  q_InvalidShape_InvalidWord : PySem.W.kitOne K (.ref A.c_InvalidShape) (.ref A.c_InvalidWord) = some (("InvalidShape" : Str) == "InvalidWord")
  q_InvalidShape_TooMany : PySem.W.kitOne K (.ref A.c_InvalidShape) (.ref A.c_TooMany) = some (("InvalidShape" : Str) == "TooMany")
  q_InvalidShape_Unlike : PySem.W.kitOne K (.ref A.c_InvalidShape) (.ref A.c_Unlike) = some (("InvalidShape" : Str) == "Unlike")
  q_InvalidWord_InvalidBoard : PySem.W.kitOne K (.ref A.c_InvalidWord) (.ref A.c_InvalidBoard) = some (("InvalidWord" : Str) == "InvalidBoard")
  q_InvalidWord_InvalidBox : PySem.W.kitOne K (.ref A.c_InvalidWord) (.ref A.c_InvalidBox) = some (("InvalidWord" : Str) == "InvalidBox")
  q_InvalidWord_InvalidList : PySem.W.kitOne K (.ref A.c_InvalidWord) (.ref A.c_InvalidList) = some (("InvalidWord" : Str) == "InvalidList")
  q_InvalidWord_InvalidNumber : PySem.W.kitOne K (.ref A.c_InvalidWord) (.ref A.c_InvalidNumber) = some (("InvalidWord" : Str) == "InvalidNumber")
  q_InvalidWord_InvalidOrder : PySem.W.kitOne K (.ref A.c_InvalidWord) (.ref A.c_InvalidOrder) = some (("InvalidWord" : Str) == "InvalidOrder")
  q_InvalidWord_InvalidShape : PySem.W.kitOne K (.ref A.c_InvalidWord) (.ref A.c_InvalidShape) = some (("InvalidWord" : Str) == "InvalidShape")
  q_InvalidWord_InvalidWord : PySem.W.kitOne K (.ref A.c_InvalidWord) (.ref A.c_InvalidWord) = some (("InvalidWord" : Str) == "InvalidWord")
  q_InvalidWord_TooMany : PySem.W.kitOne K (.ref A.c_InvalidWord) (.ref A.c_TooMany) = some (("InvalidWord" : Str) == "TooMany")
  q_InvalidWord_Unlike : PySem.W.kitOne K (.ref A.c_InvalidWord) (.ref A.c_Unlike) = some (("InvalidWord" : Str) == "Unlike")
  q_TooMany_InvalidBoard : PySem.W.kitOne K (.ref A.c_TooMany) (.ref A.c_InvalidBoard) = some (("TooMany" : Str) == "InvalidBoard")
  q_TooMany_InvalidBox : PySem.W.kitOne K (.ref A.c_TooMany) (.ref A.c_InvalidBox) = some (("TooMany" : Str) == "InvalidBox")
  q_TooMany_InvalidList : PySem.W.kitOne K (.ref A.c_TooMany) (.ref A.c_InvalidList) = some (("TooMany" : Str) == "InvalidList")
  q_TooMany_InvalidNumber : PySem.W.kitOne K (.ref A.c_TooMany) (.ref A.c_InvalidNumber) = some (("TooMany" : Str) == "InvalidNumber")
  q_TooMany_InvalidOrder : PySem.W.kitOne K (.ref A.c_TooMany) (.ref A.c_InvalidOrder) = some (("TooMany" : Str) == "InvalidOrder")
  q_TooMany_InvalidShape : PySem.W.kitOne K (.ref A.c_TooMany) (.ref A.c_InvalidShape) = some (("TooMany" : Str) == "InvalidShape")
  q_TooMany_InvalidWord : PySem.W.kitOne K (.ref A.c_TooMany) (.ref A.c_InvalidWord) = some (("TooMany" : Str) == "InvalidWord")
  q_TooMany_TooMany : PySem.W.kitOne K (.ref A.c_TooMany) (.ref A.c_TooMany) = some (("TooMany" : Str) == "TooMany")
  q_TooMany_Unlike : PySem.W.kitOne K (.ref A.c_TooMany) (.ref A.c_Unlike) = some (("TooMany" : Str) == "Unlike")
  q_Unlike_InvalidBoard : PySem.W.kitOne K (.ref A.c_Unlike) (.ref A.c_InvalidBoard) = some (("Unlike" : Str) == "InvalidBoard")
  q_Unlike_InvalidBox : PySem.W.kitOne K (.ref A.c_Unlike) (.ref A.c_InvalidBox) = some (("Unlike" : Str) == "InvalidBox")
  q_Unlike_InvalidList : PySem.W.kitOne K (.ref A.c_Unlike) (.ref A.c_InvalidList) = some (("Unlike" : Str) == "InvalidList")
  q_Unlike_InvalidNumber : PySem.W.kitOne K (.ref A.c_Unlike) (.ref A.c_InvalidNumber) = some (("Unlike" : Str) == "InvalidNumber")
  q_Unlike_InvalidOrder : PySem.W.kitOne K (.ref A.c_Unlike) (.ref A.c_InvalidOrder) = some (("Unlike" : Str) == "InvalidOrder")
  q_Unlike_InvalidShape : PySem.W.kitOne K (.ref A.c_Unlike) (.ref A.c_InvalidShape) = some (("Unlike" : Str) == "InvalidShape")
  q_Unlike_InvalidWord : PySem.W.kitOne K (.ref A.c_Unlike) (.ref A.c_InvalidWord) = some (("Unlike" : Str) == "InvalidWord")
  q_Unlike_TooMany : PySem.W.kitOne K (.ref A.c_Unlike) (.ref A.c_TooMany) = some (("Unlike" : Str) == "TooMany")
  q_Unlike_Unlike : PySem.W.kitOne K (.ref A.c_Unlike) (.ref A.c_Unlike) = some (("Unlike" : Str) == "Unlike")
section
variable {P : Program} {w : World} {K : PySem.W.Frag} {mg : Str → Option Value} {base : Heap} {A : Ad} {cl : ClT}
theorem clT_cases {c : Str} {C : Addr} (h : clT A c = some C) : (c = "InvalidBoard" ∧ C = A.c_InvalidBoard) ∨ (c = "InvalidBox" ∧ C = A.c_InvalidBox) ∨ (c = "InvalidList" ∧ C = A.c_InvalidList) ∨ (c = "InvalidNumber" ∧ C = A.c_InvalidNumber) ∨ (c = "InvalidOrder" ∧ C = A.c_InvalidOrder) ∨ (c = "InvalidShape" ∧ C = A.c_InvalidShape) ∨ (c = "InvalidWord" ∧ C = A.c_InvalidWord) ∨ (c = "TooMany" ∧ C = A.c_TooMany) ∨ (c = "Unlike" ∧ C = A.c_Unlike) := by
  unfold clT at h
  split at h
  · rename_i q; cases h; exact .inl ⟨q, rfl⟩
  · skip
    split at h
    · rename_i q; cases h; exact .inr (.inl ⟨q, rfl⟩)
    · skip
      split at h
      · rename_i q; cases h; exact .inr (.inr (.inl ⟨q, rfl⟩))
      · skip
        split at h
        · rename_i q; cases h; exact .inr (.inr (.inr (.inl ⟨q, rfl⟩)))
        · skip
          split at h
          · rename_i q; cases h; exact .inr (.inr (.inr (.inr (.inl ⟨q, rfl⟩))))
          · skip
            split at h
            · rename_i q; cases h; exact .inr (.inr (.inr (.inr (.inr (.inl ⟨q, rfl⟩)))))
            · skip
              split at h
              · rename_i q; cases h; exact .inr (.inr (.inr (.inr (.inr (.inr (.inl ⟨q, rfl⟩))))))
              · skip
                split at h
                · rename_i q; cases h; exact .inr (.inr (.inr (.inr (.inr (.inr (.inr (.inl ⟨q, rfl⟩)))))))
                · skip
                  split at h
                  · rename_i q; cases h; exact .inr (.inr (.inr (.inr (.inr (.inr (.inr (.inr (⟨q, rfl⟩))))))))
                  · cases h
theorem cl_InvalidBoard (T : Txt P w K mg A) : (GG K A cl).cls "InvalidBoard" = some A.c_InvalidBoard := rfl
theorem cl_InvalidBox (T : Txt P w K mg A) : (GG K A cl).cls "InvalidBox" = some A.c_InvalidBox := rfl
theorem cl_InvalidList (T : Txt P w K mg A) : (GG K A cl).cls "InvalidList" = some A.c_InvalidList := rfl
theorem cl_InvalidNumber (T : Txt P w K mg A) : (GG K A cl).cls "InvalidNumber" = some A.c_InvalidNumber := rfl
theorem cl_InvalidOrder (T : Txt P w K mg A) : (GG K A cl).cls "InvalidOrder" = some A.c_InvalidOrder := rfl
theorem cl_InvalidShape (T : Txt P w K mg A) : (GG K A cl).cls "InvalidShape" = some A.c_InvalidShape := rfl
theorem cl_InvalidWord (T : Txt P w K mg A) : (GG K A cl).cls "InvalidWord" = some A.c_InvalidWord := rfl
theorem cl_TooMany (T : Txt P w K mg A) : (GG K A cl).cls "TooMany" = some A.c_TooMany := rfl
theorem cl_Unlike (T : Txt P w K mg A) : (GG K A cl).cls "Unlike" = some A.c_Unlike := rfl
theorem xf_all (T : Txt P w K mg A) : ∀ c C, clT A c = some C → XfC K C ∧ PySem.W.findIn K (.ref C) "value" = some none := fun c C h => by
  rcases clT_cases h with ⟨rfl, rfl⟩ | ⟨rfl, rfl⟩ | ⟨rfl, rfl⟩ | ⟨rfl, rfl⟩ | ⟨rfl, rfl⟩ | ⟨rfl, rfl⟩ | ⟨rfl, rfl⟩ | ⟨rfl, rfl⟩ | ⟨rfl, rfl⟩
  · exact ⟨⟨T.kt_InvalidBoard.ga, T.kt_InvalidBoard.gg, T.kt_InvalidBoard.ox.exC, T.kt_InvalidBoard.hd⟩, T.kt_InvalidBoard.no⟩
  · exact ⟨⟨T.kt_InvalidBox.ga, T.kt_InvalidBox.gg, T.kt_InvalidBox.ox.exC, T.kt_InvalidBox.hd⟩, T.kt_InvalidBox.no⟩
  · exact ⟨⟨T.kt_InvalidList.ga, T.kt_InvalidList.gg, T.kt_InvalidList.ox.exC, T.kt_InvalidList.hd⟩, T.kt_InvalidList.no⟩
  · exact ⟨⟨T.kt_InvalidNumber.ga, T.kt_InvalidNumber.gg, T.kt_InvalidNumber.ox.exC, T.kt_InvalidNumber.hd⟩, T.kt_InvalidNumber.no⟩
  · exact ⟨⟨T.kt_InvalidOrder.ga, T.kt_InvalidOrder.gg, T.kt_InvalidOrder.ox.exC, T.kt_InvalidOrder.hd⟩, T.kt_InvalidOrder.no⟩
  · exact ⟨⟨T.kt_InvalidShape.ga, T.kt_InvalidShape.gg, T.kt_InvalidShape.ox.exC, T.kt_InvalidShape.hd⟩, T.kt_InvalidShape.no⟩
  · exact ⟨⟨T.kt_InvalidWord.ga, T.kt_InvalidWord.gg, T.kt_InvalidWord.ox.exC, T.kt_InvalidWord.hd⟩, T.kt_InvalidWord.no⟩
  · exact ⟨⟨T.kt_TooMany.ga, T.kt_TooMany.gg, T.kt_TooMany.ox.exC, T.kt_TooMany.hd⟩, T.kt_TooMany.no⟩
  · exact ⟨⟨T.kt_Unlike.ga, T.kt_Unlike.gg, T.kt_Unlike.ox.exC, T.kt_Unlike.hd⟩, T.kt_Unlike.no⟩
theorem te_all (T : Txt P w K mg A) : ∀ c C, clT A c = some C → PySem.W.exmOne K (.ref C) (.ref A.bD) = some true := fun c C h => by
  rcases clT_cases h with ⟨rfl, rfl⟩ | ⟨rfl, rfl⟩ | ⟨rfl, rfl⟩ | ⟨rfl, rfl⟩ | ⟨rfl, rfl⟩ | ⟨rfl, rfl⟩ | ⟨rfl, rfl⟩ | ⟨rfl, rfl⟩ | ⟨rfl, rfl⟩
  · exact T.kt_InvalidBoard.te
  · exact T.kt_InvalidBox.te
  · exact T.kt_InvalidList.te
  · exact T.kt_InvalidNumber.te
  · exact T.kt_InvalidOrder.te
  · exact T.kt_InvalidShape.te
  · exact T.kt_InvalidWord.te
  · exact T.kt_TooMany.te
  · exact T.kt_Unlike.te
theorem is_InvalidBoard (T : Txt P w K mg A) : ∀ c C, clT A c = some C → ExcC K C ∧ PySem.W.kitOne K (.ref C) (.ref A.c_InvalidBoard) = some (c == "InvalidBoard") := fun c C h => by
  rcases clT_cases h with ⟨rfl, rfl⟩ | ⟨rfl, rfl⟩ | ⟨rfl, rfl⟩ | ⟨rfl, rfl⟩ | ⟨rfl, rfl⟩ | ⟨rfl, rfl⟩ | ⟨rfl, rfl⟩ | ⟨rfl, rfl⟩ | ⟨rfl, rfl⟩
  · exact ⟨T.ec_InvalidBoard, T.q_InvalidBoard_InvalidBoard⟩
  · exact ⟨T.ec_InvalidBox, T.q_InvalidBox_InvalidBoard⟩
  · exact ⟨T.ec_InvalidList, T.q_InvalidList_InvalidBoard⟩
  · exact ⟨T.ec_InvalidNumber, T.q_InvalidNumber_InvalidBoard⟩
  · exact ⟨T.ec_InvalidOrder, T.q_InvalidOrder_InvalidBoard⟩
  · exact ⟨T.ec_InvalidShape, T.q_InvalidShape_InvalidBoard⟩
  · exact ⟨T.ec_InvalidWord, T.q_InvalidWord_InvalidBoard⟩
  · exact ⟨T.ec_TooMany, T.q_TooMany_InvalidBoard⟩
  · exact ⟨T.ec_Unlike, T.q_Unlike_InvalidBoard⟩
theorem is_InvalidBox (T : Txt P w K mg A) : ∀ c C, clT A c = some C → ExcC K C ∧ PySem.W.kitOne K (.ref C) (.ref A.c_InvalidBox) = some (c == "InvalidBox") := fun c C h => by
  rcases clT_cases h with ⟨rfl, rfl⟩ | ⟨rfl, rfl⟩ | ⟨rfl, rfl⟩ | ⟨rfl, rfl⟩ | ⟨rfl, rfl⟩ | ⟨rfl, rfl⟩ | ⟨rfl, rfl⟩ | ⟨rfl, rfl⟩ | ⟨rfl, rfl⟩
  · exact ⟨T.ec_InvalidBoard, T.q_InvalidBoard_InvalidBox⟩
  · exact ⟨T.ec_InvalidBox, T.q_InvalidBox_InvalidBox⟩
  · exact ⟨T.ec_InvalidList, T.q_InvalidList_InvalidBox⟩
  · exact ⟨T.ec_InvalidNumber, T.q_InvalidNumber_InvalidBox⟩
  · exact ⟨T.ec_InvalidOrder, T.q_InvalidOrder_InvalidBox⟩
  · exact ⟨T.ec_InvalidShape, T.q_InvalidShape_InvalidBox⟩
  · exact ⟨T.ec_InvalidWord, T.q_InvalidWord_InvalidBox⟩
  · exact ⟨T.ec_TooMany, T.q_TooMany_InvalidBox⟩
  · exact ⟨T.ec_Unlike, T.q_Unlike_InvalidBox⟩
theorem is_InvalidList (T : Txt P w K mg A) : ∀ c C, clT A c = some C → ExcC K C ∧ PySem.W.kitOne K (.ref C) (.ref A.c_InvalidList) = some (c == "InvalidList") := fun c C h => by
  rcases clT_cases h with ⟨rfl, rfl⟩ | ⟨rfl, rfl⟩ | ⟨rfl, rfl⟩ | ⟨rfl, rfl⟩ | ⟨rfl, rfl⟩ | ⟨rfl, rfl⟩ | ⟨rfl, rfl⟩ | ⟨rfl, rfl⟩ | ⟨rfl, rfl⟩
  · exact ⟨T.ec_InvalidBoard, T.q_InvalidBoard_InvalidList⟩
  · exact ⟨T.ec_InvalidBox, T.q_InvalidBox_InvalidList⟩
  · exact ⟨T.ec_InvalidList, T.q_InvalidList_InvalidList⟩
  · exact ⟨T.ec_InvalidNumber, T.q_InvalidNumber_InvalidList⟩
  · exact ⟨T.ec_InvalidOrder, T.q_InvalidOrder_InvalidList⟩
  · exact ⟨T.ec_InvalidShape, T.q_InvalidShape_InvalidList⟩
  · exact ⟨T.ec_InvalidWord, T.q_InvalidWord_InvalidList⟩
  · exact ⟨T.ec_TooMany, T.q_TooMany_InvalidList⟩
  · exact ⟨T.ec_Unlike, T.q_Unlike_InvalidList⟩
theorem is_InvalidNumber (T : Txt P w K mg A) : ∀ c C, clT A c = some C → ExcC K C ∧ PySem.W.kitOne K (.ref C) (.ref A.c_InvalidNumber) = some (c == "InvalidNumber") := fun c C h => by
  rcases clT_cases h with ⟨rfl, rfl⟩ | ⟨rfl, rfl⟩ | ⟨rfl, rfl⟩ | ⟨rfl, rfl⟩ | ⟨rfl, rfl⟩ | ⟨rfl, rfl⟩ | ⟨rfl, rfl⟩ | ⟨rfl, rfl⟩ | ⟨rfl, rfl⟩
  · exact ⟨T.ec_InvalidBoard, T.q_InvalidBoard_InvalidNumber⟩
  · exact ⟨T.ec_InvalidBox, T.q_InvalidBox_InvalidNumber⟩
  · exact ⟨T.ec_InvalidList, T.q_InvalidList_InvalidNumber⟩
  · exact ⟨T.ec_InvalidNumber, T.q_InvalidNumber_InvalidNumber⟩
  · exact ⟨T.ec_InvalidOrder, T.q_InvalidOrder_InvalidNumber⟩
  · exact ⟨T.ec_InvalidShape, T.q_InvalidShape_InvalidNumber⟩
  · exact ⟨T.ec_InvalidWord, T.q_InvalidWord_InvalidNumber⟩
  · exact ⟨T.ec_TooMany, T.q_TooMany_InvalidNumber⟩
  · exact ⟨T.ec_Unlike, T.q_Unlike_InvalidNumber⟩
theorem is_InvalidOrder (T : Txt P w K mg A) : ∀ c C, clT A c = some C → ExcC K C ∧ PySem.W.kitOne K (.ref C) (.ref A.c_InvalidOrder) = some (c == "InvalidOrder") := fun c C h => by
  rcases clT_cases h with ⟨rfl, rfl⟩ | ⟨rfl, rfl⟩ | ⟨rfl, rfl⟩ | ⟨rfl, rfl⟩ | ⟨rfl, rfl⟩ | ⟨rfl, rfl⟩ | ⟨rfl, rfl⟩ | ⟨rfl, rfl⟩ | ⟨rfl, rfl⟩
  · exact ⟨T.ec_InvalidBoard, T.q_InvalidBoard_InvalidOrder⟩
  · exact ⟨T.ec_InvalidBox, T.q_InvalidBox_InvalidOrder⟩
  · exact ⟨T.ec_InvalidList, T.q_InvalidList_InvalidOrder⟩
  · exact ⟨T.ec_InvalidNumber, T.q_InvalidNumber_InvalidOrder⟩
  · exact ⟨T.ec_InvalidOrder, T.q_InvalidOrder_InvalidOrder⟩
  · exact ⟨T.ec_InvalidShape, T.q_InvalidShape_InvalidOrder⟩
  · exact ⟨T.ec_InvalidWord, T.q_InvalidWord_InvalidOrder⟩
  · exact ⟨T.ec_TooMany, T.q_TooMany_InvalidOrder⟩
  · exact ⟨T.ec_Unlike, T.q_Unlike_InvalidOrder⟩
theorem is_InvalidShape (T : Txt P w K mg A) : ∀ c C, clT A c = some C → ExcC K C ∧ PySem.W.kitOne K (.ref C) (.ref A.c_InvalidShape) = some (c == "InvalidShape") := fun c C h => by
  rcases clT_cases h with ⟨rfl, rfl⟩ | ⟨rfl, rfl⟩ | ⟨rfl, rfl⟩ | ⟨rfl, rfl⟩ | ⟨rfl, rfl⟩ | ⟨rfl, rfl⟩ | ⟨rfl, rfl⟩ | ⟨rfl, rfl⟩ | ⟨rfl, rfl⟩
  · exact ⟨T.ec_InvalidBoard, T.q_InvalidBoard_InvalidShape⟩
  · exact ⟨T.ec_InvalidBox, T.q_InvalidBox_InvalidShape⟩
  · exact ⟨T.ec_InvalidList, T.q_InvalidList_InvalidShape⟩
  · exact ⟨T.ec_InvalidNumber, T.q_InvalidNumber_InvalidShape⟩
  · exact ⟨T.ec_InvalidOrder, T.q_InvalidOrder_InvalidShape⟩
  · exact ⟨T.ec_InvalidShape, T.q_InvalidShape_InvalidShape⟩
  · exact ⟨T.ec_InvalidWord, T.q_InvalidWord_InvalidShape⟩
  · exact ⟨T.ec_TooMany, T.q_TooMany_InvalidShape⟩
  · exact ⟨T.ec_Unlike, T.q_Unlike_InvalidShape⟩
theorem is_InvalidWord (T : Txt P w K mg A) : ∀ c C, clT A c = some C → ExcC K C ∧ PySem.W.kitOne K (.ref C) (.ref A.c_InvalidWord) = some (c == "InvalidWord") := fun c C h => by
  rcases clT_cases h with ⟨rfl, rfl⟩ | ⟨rfl, rfl⟩ | ⟨rfl, rfl⟩ | ⟨rfl, rfl⟩ | ⟨rfl, rfl⟩ | ⟨rfl, rfl⟩ | ⟨rfl, rfl⟩ | ⟨rfl, rfl⟩ | ⟨rfl, rfl⟩
  · exact ⟨T.ec_InvalidBoard, T.q_InvalidBoard_InvalidWord⟩
  · exact ⟨T.ec_InvalidBox, T.q_InvalidBox_InvalidWord⟩
  · exact ⟨T.ec_InvalidList, T.q_InvalidList_InvalidWord⟩
  · exact ⟨T.ec_InvalidNumber, T.q_InvalidNumber_InvalidWord⟩
  · exact ⟨T.ec_InvalidOrder, T.q_InvalidOrder_InvalidWord⟩
  · exact ⟨T.ec_InvalidShape, T.q_InvalidShape_InvalidWord⟩
  · exact ⟨T.ec_InvalidWord, T.q_InvalidWord_InvalidWord⟩
  · exact ⟨T.ec_TooMany, T.q_TooMany_InvalidWord⟩
  · exact ⟨T.ec_Unlike, T.q_Unlike_InvalidWord⟩
theorem is_TooMany (T : Txt P w K mg A) : ∀ c C, clT A c = some C → ExcC K C ∧ PySem.W.kitOne K (.ref C) (.ref A.c_TooMany) = some (c == "TooMany") := fun c C h => by
  rcases clT_cases h with ⟨rfl, rfl⟩ | ⟨rfl, rfl⟩ | ⟨rfl, rfl⟩ | ⟨rfl, rfl⟩ | ⟨rfl, rfl⟩ | ⟨rfl, rfl⟩ | ⟨rfl, rfl⟩ | ⟨rfl, rfl⟩ | ⟨rfl, rfl⟩
  · exact ⟨T.ec_InvalidBoard, T.q_InvalidBoard_TooMany⟩
  · exact ⟨T.ec_InvalidBox, T.q_InvalidBox_TooMany⟩
  · exact ⟨T.ec_InvalidList, T.q_InvalidList_TooMany⟩
  · exact ⟨T.ec_InvalidNumber, T.q_InvalidNumber_TooMany⟩
  · exact ⟨T.ec_InvalidOrder, T.q_InvalidOrder_TooMany⟩
  · exact ⟨T.ec_InvalidShape, T.q_InvalidShape_TooMany⟩
  · exact ⟨T.ec_InvalidWord, T.q_InvalidWord_TooMany⟩
  · exact ⟨T.ec_TooMany, T.q_TooMany_TooMany⟩
  · exact ⟨T.ec_Unlike, T.q_Unlike_TooMany⟩
theorem is_Unlike (T : Txt P w K mg A) : ∀ c C, clT A c = some C → ExcC K C ∧ PySem.W.kitOne K (.ref C) (.ref A.c_Unlike) = some (c == "Unlike") := fun c C h => by
  rcases clT_cases h with ⟨rfl, rfl⟩ | ⟨rfl, rfl⟩ | ⟨rfl, rfl⟩ | ⟨rfl, rfl⟩ | ⟨rfl, rfl⟩ | ⟨rfl, rfl⟩ | ⟨rfl, rfl⟩ | ⟨rfl, rfl⟩ | ⟨rfl, rfl⟩
  · exact ⟨T.ec_InvalidBoard, T.q_InvalidBoard_Unlike⟩
  · exact ⟨T.ec_InvalidBox, T.q_InvalidBox_Unlike⟩
  · exact ⟨T.ec_InvalidList, T.q_InvalidList_Unlike⟩
  · exact ⟨T.ec_InvalidNumber, T.q_InvalidNumber_Unlike⟩
  · exact ⟨T.ec_InvalidOrder, T.q_InvalidOrder_Unlike⟩
  · exact ⟨T.ec_InvalidShape, T.q_InvalidShape_Unlike⟩
  · exact ⟨T.ec_InvalidWord, T.q_InvalidWord_Unlike⟩
  · exact ⟨T.ec_TooMany, T.q_TooMany_Unlike⟩
  · exact ⟨T.ec_Unlike, T.q_Unlike_Unlike⟩
theorem sc_is_whole : FnScope ["value"] ["value"] (defScope s_is_whole) := ⟨rfl, rfl, rfl, by decide +kernel, rfl, by decide +kernel, by decide +kernel⟩
theorem sc_is_count : FnScope ["value"] ["value"] (defScope s_is_count) := ⟨rfl, rfl, rfl, by decide +kernel, rfl, by decide +kernel, by decide +kernel⟩
theorem sc_is_letter : FnScope ["value"] ["value"] (defScope s_is_letter) := ⟨rfl, rfl, rfl, by decide +kernel, rfl, by decide +kernel, by decide +kernel⟩
theorem sc_is_word_by : FnScope ["value", "one"] ["value"] (defScope s_is_word_by) := ⟨rfl, rfl, rfl, by decide +kernel, rfl, by decide +kernel, by decide +kernel⟩
theorem sc_is_order_by : FnScope ["value"] ["value"] (defScope s_is_order_by) := ⟨rfl, rfl, rfl, by decide +kernel, rfl, by decide +kernel, by decide +kernel⟩
theorem sc_check_order : FnScope ["order"] ["order"] (defScope s_check_order) := ⟨rfl, rfl, rfl, by decide +kernel, rfl, by decide +kernel, by decide +kernel⟩
theorem sc_whole_product : FnScope ["numbers", "found", "number"] ["numbers"] (defScope s_whole_product) := ⟨rfl, rfl, rfl, by decide +kernel, rfl, by decide +kernel, by decide +kernel⟩
theorem sc_check_size : FnScope ["size"] ["size"] (defScope s_check_size) := ⟨rfl, rfl, rfl, by decide +kernel, rfl, by decide +kernel, by decide +kernel⟩
theorem sc_code_by : FnScope ["order", "at", "number", "late"] ["order"] (defScope s_code_by) := ⟨rfl, rfl, rfl, by decide +kernel, rfl, by decide +kernel, by decide +kernel⟩
theorem sc_order_with : FnScope ["code", "left", "found", "one", "at"] ["code"] (defScope s_order_with) := ⟨rfl, rfl, rfl, by decide +kernel, rfl, by decide +kernel, by decide +kernel⟩
theorem sc_order_position : FnScope ["order", "found", "at", "one"] ["order"] (defScope s_order_position) := ⟨rfl, rfl, rfl, by decide +kernel, rfl, by decide +kernel, by decide +kernel⟩
theorem sc_order_at : FnScope ["size", "number", "left", "found", "place", "under"] ["size", "number"] (defScope s_order_at) := ⟨rfl, rfl, rfl, by decide +kernel, rfl, by decide +kernel, by decide +kernel⟩
theorem sc__law_hash : FnScope ["seed", "index", "mixed"] ["seed", "index"] (defScope s__law_hash) := ⟨rfl, rfl, rfl, by decide +kernel, rfl, by decide +kernel, by decide +kernel⟩
theorem sc__law_random : FnScope ["generator", "bound", "drawn", "turn"] ["generator", "bound"] (defScope s__law_random) := ⟨rfl, rfl, rfl, by decide +kernel, rfl, by decide +kernel, by decide +kernel⟩
theorem sc__law_cell : FnScope ["script", "index"] ["script", "index"] (defScope s__law_cell) := ⟨rfl, rfl, rfl, by decide +kernel, rfl, by decide +kernel, by decide +kernel⟩
theorem sc__law_generator : FnScope ["script", "index", "seed"] ["script", "index"] (defScope s__law_generator) := ⟨rfl, rfl, rfl, by decide +kernel, rfl, by decide +kernel, by decide +kernel⟩
theorem sc__law_exact : FnScope ["told", "due"] ["told", "due"] (defScope s__law_exact) := ⟨rfl, rfl, rfl, by decide +kernel, rfl, by decide +kernel, by decide +kernel⟩
theorem sc__law_order : FnScope ["generator", "items", "left", "found", "turn"] ["generator", "items"] (defScope s__law_order) := ⟨rfl, rfl, rfl, by decide +kernel, rfl, by decide +kernel, by decide +kernel⟩
theorem sc__law_marked : FnScope ["told", "kept", "item"] ["told"] (defScope s__law_marked) := ⟨rfl, rfl, rfl, by decide +kernel, rfl, by decide +kernel, by decide +kernel⟩
theorem sc__law_caught : FnScope ["call", "error", "e", "kinds"] ["call"] (defScope s__law_caught) := ⟨rfl, rfl, rfl, by decide +kernel, rfl, by decide +kernel, by decide +kernel⟩
theorem sc__law_all_caught : FnScope ["calls", "at", "value", "call", "place"] ["calls", "at", "value"] (defScope s__law_all_caught) := ⟨rfl, rfl, rfl, by decide +kernel, rfl, by decide +kernel, by decide +kernel⟩
theorem sc__law_bad_words : FnScope [] [] (defScope s__law_bad_words) := ⟨rfl, rfl, rfl, by decide +kernel, rfl, by decide +kernel, by decide +kernel⟩
theorem sc__law_drawn : FnScope ["generator", "most"] ["generator", "most"] (defScope s__law_drawn) := ⟨rfl, rfl, rfl, by decide +kernel, rfl, by decide +kernel, by decide +kernel⟩
theorem sc__law_product : FnScope ["numbers", "found", "number"] ["numbers"] (defScope s__law_product) := ⟨rfl, rfl, rfl, by decide +kernel, rfl, by decide +kernel, by decide +kernel⟩
theorem sc__law_factorial : FnScope ["many"] ["many"] (defScope s__law_factorial) := ⟨rfl, rfl, rfl, by decide +kernel, rfl, by decide +kernel, by decide +kernel⟩
theorem sc__law_code : FnScope ["order", "at", "number", "late"] ["order"] (defScope s__law_code) := ⟨rfl, rfl, rfl, by decide +kernel, rfl, by decide +kernel, by decide +kernel⟩
theorem sc__law_bad_orders : FnScope [] [] (defScope s__law_bad_orders) := ⟨rfl, rfl, rfl, by decide +kernel, rfl, by decide +kernel, by decide +kernel⟩
theorem sc__law_position : FnScope ["order", "found", "at", "one"] ["order"] (defScope s__law_position) := ⟨rfl, rfl, rfl, by decide +kernel, rfl, by decide +kernel, by decide +kernel⟩
theorem sc__law_all : FnScope ["size", "found", "turn", "order", "one"] ["size"] (defScope s__law_all) := ⟨rfl, rfl, rfl, by decide +kernel, rfl, by decide +kernel, by decide +kernel⟩
theorem sc__law_right : FnScope ["generator", "order", "kept", "due", "told", "small", "bad", "number"] ["generator"] (defScope s__law_right) := ⟨rfl, rfl, rfl, by decide +kernel, rfl, by decide +kernel, by decide +kernel⟩
theorem sc_law : FnScope ["script", "index", "generator"] ["script"] (defScope s_law) := ⟨rfl, rfl, rfl, by decide +kernel, rfl, by decide +kernel, by decide +kernel⟩
theorem kb_is_whole_1 (T : Txt P w K mg A) : KB K A.d_is_whole ["value"] 1 [] [0] := kb_of T.F_is_whole fun _ _ _ _ _ _ us ws h1 h2 => match us, ws, h1, h2 with | [_], [], _, _ => rfl
theorem kb_is_count_1 (T : Txt P w K mg A) : KB K A.d_is_count ["value"] 1 [] [0] := kb_of T.F_is_count fun _ _ _ _ _ _ us ws h1 h2 => match us, ws, h1, h2 with | [_], [], _, _ => rfl
theorem kb_is_letter_1 (T : Txt P w K mg A) : KB K A.d_is_letter ["value"] 1 [] [0] := kb_of T.F_is_letter fun _ _ _ _ _ _ us ws h1 h2 => match us, ws, h1, h2 with | [_], [], _, _ => rfl
theorem kb_is_word_by_1 (T : Txt P w K mg A) : KB K A.d_is_word_by ["value"] 1 [] [0] := kb_of T.F_is_word_by fun _ _ _ _ _ _ us ws h1 h2 => match us, ws, h1, h2 with | [_], [], _, _ => rfl
theorem kb_is_order_by_1 (T : Txt P w K mg A) : KB K A.d_is_order_by ["value"] 1 [] [0] := kb_of T.F_is_order_by fun _ _ _ _ _ _ us ws h1 h2 => match us, ws, h1, h2 with | [_], [], _, _ => rfl
theorem kb_check_order_1 (T : Txt P w K mg A) : KB K A.d_check_order ["order"] 1 [] [0] := kb_of T.F_check_order fun _ _ _ _ _ _ us ws h1 h2 => match us, ws, h1, h2 with | [_], [], _, _ => rfl
theorem kb_whole_product_1 (T : Txt P w K mg A) : KB K A.d_whole_product ["numbers"] 1 [] [0] := kb_of T.F_whole_product fun _ _ _ _ _ _ us ws h1 h2 => match us, ws, h1, h2 with | [_], [], _, _ => rfl
theorem kb_check_size_1 (T : Txt P w K mg A) : KB K A.d_check_size ["size"] 1 [] [0] := kb_of T.F_check_size fun _ _ _ _ _ _ us ws h1 h2 => match us, ws, h1, h2 with | [_], [], _, _ => rfl
theorem kb_code_by_1 (T : Txt P w K mg A) : KB K A.d_code_by ["order"] 1 [] [0] := kb_of T.F_code_by fun _ _ _ _ _ _ us ws h1 h2 => match us, ws, h1, h2 with | [_], [], _, _ => rfl
theorem kb_order_with_1 (T : Txt P w K mg A) : KB K A.d_order_with ["code"] 1 [] [0] := kb_of T.F_order_with fun _ _ _ _ _ _ us ws h1 h2 => match us, ws, h1, h2 with | [_], [], _, _ => rfl
theorem kb_order_position_0_order (T : Txt P w K mg A) : KB K A.d_order_position ["order"] 0 ["order"] [0] := kb_of T.F_order_position fun _ _ _ _ _ _ us ws h1 h2 => match us, ws, h1, h2 with | [], [_], _, _ => rfl
theorem kb_order_position_1 (T : Txt P w K mg A) : KB K A.d_order_position ["order"] 1 [] [0] := kb_of T.F_order_position fun _ _ _ _ _ _ us ws h1 h2 => match us, ws, h1, h2 with | [_], [], _, _ => rfl
theorem kb_order_at_0_number_size (T : Txt P w K mg A) : KB K A.d_order_at ["size", "number"] 0 ["number", "size"] [1, 0] := kb_of T.F_order_at fun _ _ _ _ _ _ us ws h1 h2 => match us, ws, h1, h2 with | [], [_, _], _, _ => rfl
theorem kb_order_at_2 (T : Txt P w K mg A) : KB K A.d_order_at ["size", "number"] 2 [] [0, 1] := kb_of T.F_order_at fun _ _ _ _ _ _ us ws h1 h2 => match us, ws, h1, h2 with | [_, _], [], _, _ => rfl
theorem kb_law_hash_2 (T : Txt P w K mg A) : KB K A.d__law_hash ["seed", "index"] 2 [] [0, 1] := kb_of T.F__law_hash fun _ _ _ _ _ _ us ws h1 h2 => match us, ws, h1, h2 with | [_, _], [], _, _ => rfl
theorem kb_law_random_2 (T : Txt P w K mg A) : KB K A.d__law_random ["generator", "bound"] 2 [] [0, 1] := kb_of T.F__law_random fun _ _ _ _ _ _ us ws h1 h2 => match us, ws, h1, h2 with | [_, _], [], _, _ => rfl
theorem kb_law_cell_2 (T : Txt P w K mg A) : KB K A.d__law_cell ["script", "index"] 2 [] [0, 1] := kb_of T.F__law_cell fun _ _ _ _ _ _ us ws h1 h2 => match us, ws, h1, h2 with | [_, _], [], _, _ => rfl
theorem kb_law_generator_2 (T : Txt P w K mg A) : KB K A.d__law_generator ["script", "index"] 2 [] [0, 1] := kb_of T.F__law_generator fun _ _ _ _ _ _ us ws h1 h2 => match us, ws, h1, h2 with | [_, _], [], _, _ => rfl
theorem kb_law_exact_2 (T : Txt P w K mg A) : KB K A.d__law_exact ["told", "due"] 2 [] [0, 1] := kb_of T.F__law_exact fun _ _ _ _ _ _ us ws h1 h2 => match us, ws, h1, h2 with | [_, _], [], _, _ => rfl
theorem kb_law_order_2 (T : Txt P w K mg A) : KB K A.d__law_order ["generator", "items"] 2 [] [0, 1] := kb_of T.F__law_order fun _ _ _ _ _ _ us ws h1 h2 => match us, ws, h1, h2 with | [_, _], [], _, _ => rfl
theorem kb_law_marked_1 (T : Txt P w K mg A) : KB K A.d__law_marked ["told"] 1 [] [0] := kb_of T.F__law_marked fun _ _ _ _ _ _ us ws h1 h2 => match us, ws, h1, h2 with | [_], [], _, _ => rfl
theorem kb_law_caught_1 (T : Txt P w K mg A) : KB K A.d__law_caught ["call"] 1 [] [0] := kb_of T.F__law_caught fun _ _ _ _ _ _ us ws h1 h2 => match us, ws, h1, h2 with | [_], [], _, _ => rfl
theorem kb_law_all_caught_3 (T : Txt P w K mg A) : KB K A.d__law_all_caught ["calls", "at", "value"] 3 [] [0, 1, 2] := kb_of T.F__law_all_caught fun _ _ _ _ _ _ us ws h1 h2 => match us, ws, h1, h2 with | [_, _, _], [], _, _ => rfl
theorem kb_law_bad_words_0 (T : Txt P w K mg A) : KB K A.d__law_bad_words [] 0 [] [] := kb_of T.F__law_bad_words fun _ _ _ _ _ _ us ws h1 h2 => match us, ws, h1, h2 with | [], [], _, _ => rfl
theorem kb_law_drawn_2 (T : Txt P w K mg A) : KB K A.d__law_drawn ["generator", "most"] 2 [] [0, 1] := kb_of T.F__law_drawn fun _ _ _ _ _ _ us ws h1 h2 => match us, ws, h1, h2 with | [_, _], [], _, _ => rfl
theorem kb_law_product_1 (T : Txt P w K mg A) : KB K A.d__law_product ["numbers"] 1 [] [0] := kb_of T.F__law_product fun _ _ _ _ _ _ us ws h1 h2 => match us, ws, h1, h2 with | [_], [], _, _ => rfl
theorem kb_law_factorial_1 (T : Txt P w K mg A) : KB K A.d__law_factorial ["many"] 1 [] [0] := kb_of T.F__law_factorial fun _ _ _ _ _ _ us ws h1 h2 => match us, ws, h1, h2 with | [_], [], _, _ => rfl
theorem kb_law_code_1 (T : Txt P w K mg A) : KB K A.d__law_code ["order"] 1 [] [0] := kb_of T.F__law_code fun _ _ _ _ _ _ us ws h1 h2 => match us, ws, h1, h2 with | [_], [], _, _ => rfl
theorem kb_law_bad_orders_0 (T : Txt P w K mg A) : KB K A.d__law_bad_orders [] 0 [] [] := kb_of T.F__law_bad_orders fun _ _ _ _ _ _ us ws h1 h2 => match us, ws, h1, h2 with | [], [], _, _ => rfl
theorem kb_law_position_1 (T : Txt P w K mg A) : KB K A.d__law_position ["order"] 1 [] [0] := kb_of T.F__law_position fun _ _ _ _ _ _ us ws h1 h2 => match us, ws, h1, h2 with | [_], [], _, _ => rfl
theorem kb_law_all_1 (T : Txt P w K mg A) : KB K A.d__law_all ["size"] 1 [] [0] := kb_of T.F__law_all fun _ _ _ _ _ _ us ws h1 h2 => match us, ws, h1, h2 with | [_], [], _, _ => rfl
theorem kb_law_right_1 (T : Txt P w K mg A) : KB K A.d__law_right ["generator"] 1 [] [0] := kb_of T.F__law_right fun _ _ _ _ _ _ us ws h1 h2 => match us, ws, h1, h2 with | [_], [], _, _ => rfl
theorem bt_all : bootBuiltins "all" = some (.builtin "all") := by decide +kernel
theorem bt_any : bootBuiltins "any" = some (.builtin "any") := by decide +kernel
theorem bt_bool : bootBuiltins "bool" = some (.type "bool") := by decide +kernel
theorem bt_enumerate : bootBuiltins "enumerate" = some (.type "enumerate") := by decide +kernel
theorem bt_int : bootBuiltins "int" = some (.type "int") := by decide +kernel
theorem bt_isinstance : bootBuiltins "isinstance" = some (.builtin "isinstance") := by decide +kernel
theorem bt_len : bootBuiltins "len" = some (.builtin "len") := by decide +kernel
theorem bt_list : bootBuiltins "list" = some (.type "list") := by decide +kernel
theorem bt_max : bootBuiltins "max" = some (.builtin "max") := by decide +kernel
theorem bt_range : bootBuiltins "range" = some (.type "range") := by decide +kernel
theorem bt_repr : bootBuiltins "repr" = some (.builtin "repr") := by decide +kernel
theorem bt_sorted : bootBuiltins "sorted" = some (.builtin "sorted") := by decide +kernel
theorem bt_sum : bootBuiltins "sum" = some (.builtin "sum") := by decide +kernel
theorem bt_tuple : bootBuiltins "tuple" = some (.type "tuple") := by decide +kernel
theorem hu64 {k : Nat} {B : Around} (hr : Room k B) : B.units + 64 < cLine := hr.units
theorem visS {X : Cx} {x : Str} (h : Vis X.env.scope x) : Vis X.env.scope x := h
theorem takesN {X : Cx} : Takes X WN := takes0
theorem ok_is_whole (T : Txt P w K mg A) : FnG P w K mg base (L2.CX P w) 3 A.a_is_whole A.d_is_whole ["value"] (spI (GG K A cl) sg_is_whole F_is_whole) :=
  fn_im (Γ' := [0]) T.F_is_whole sc_is_whole rfl (by decide) (by decide) (.inl (by decide)) (fun cdv B outer s H E hgd hr => by
    have tk : Takes (cxOf (L2.CX P w) P w K mg base ["value"] "is_whole" (defScope s_is_whole) A.a_is_whole cdv B outer s H E) (fun c d _ H => E c d H) := takes_of rfl rfl rfl rfl
    have hW : WFree (fun c d _ H => E c d H) := wfree_of
    have ps : PassesOwn (model P w) (cxOf (L2.CX P w) P w K mg base ["value"] "is_whole" (defScope s_is_whole) A.a_is_whole cdv B outer s H E).A (cxOf (L2.CX P w) P w K mg base ["value"] "is_whole" (defScope s_is_whole) A.a_is_whole cdv B outer s H E).env (cxOf (L2.CX P w) P w K mg base ["value"] "is_whole" (defScope s_is_whole) A.a_is_whole cdv B outer s H E).xe := passes_of rfl
    exact (ss_one (si_ret (ei_and (κ1 := 0) (ei_isi (Ts := "int") rfl (by decide) (by rfl) T.b_isinstance bt_isinstance (by rfl) T.b_int bt_int (oe (xV 0))) (ei_one (ei_not (κ1 := 0) (ei_isi (Ts := "bool") rfl (by decide) (by rfl) T.b_isinstance bt_isinstance (by rfl) T.b_bool bt_bool (oe (xV 0)))))))))
theorem ok_is_count (T : Txt P w K mg A) : FnG P w K mg base (L2.CX P w) 4 A.a_is_count A.d_is_count ["value"] (spI (GG K A cl) sg_is_count F_is_count) :=
  fn_im (Γ' := [0]) T.F_is_count sc_is_count rfl (by decide) (by decide) (.inl (by decide)) (fun cdv B outer s H E hgd hr => by
    have tk : Takes (cxOf (L2.CX P w) P w K mg base ["value"] "is_count" (defScope s_is_count) A.a_is_count cdv B outer s H E) (fun c d _ H => E c d H) := takes_of rfl rfl rfl rfl
    have hW : WFree (fun c d _ H => E c d H) := wfree_of
    have ps : PassesOwn (model P w) (cxOf (L2.CX P w) P w K mg base ["value"] "is_count" (defScope s_is_count) A.a_is_count cdv B outer s H E).A (cxOf (L2.CX P w) P w K mg base ["value"] "is_count" (defScope s_is_count) A.a_is_count cdv B outer s H E).env (cxOf (L2.CX P w) P w K mg base ["value"] "is_count" (defScope s_is_count) A.a_is_count cdv B outer s H E).xe := passes_of rfl
    exact (ss_one (si_ret (ei_and (κ1 := 0) (ei_call (sg := sg_is_whole) (ok_is_whole T) hgd (hr.mono (by decide)) (by rfl) T.g_is_whole T.F_is_whole.kp (kb_is_whole_1 T) tk (ci_cons (c1_e (κ := 0) (xV 0)) ci_nil) cm_n) (ei_one (ei_cmp op_ge lk_ge rfl (oe (xV 0)) (oe ei_int)))))))
theorem ok_is_letter (T : Txt P w K mg A) : FnG P w K mg base (L2.CX P w) 4 A.a_is_letter A.d_is_letter ["value"] (spI (GG K A cl) sg_is_letter F_is_letter) :=
  fn_im (Γ' := [0]) T.F_is_letter sc_is_letter rfl (by decide) (by decide) (.inl (by decide)) (fun cdv B outer s H E hgd hr => by
    have tk : Takes (cxOf (L2.CX P w) P w K mg base ["value"] "is_letter" (defScope s_is_letter) A.a_is_letter cdv B outer s H E) (fun c d _ H => E c d H) := takes_of rfl rfl rfl rfl
    have hW : WFree (fun c d _ H => E c d H) := wfree_of
    have ps : PassesOwn (model P w) (cxOf (L2.CX P w) P w K mg base ["value"] "is_letter" (defScope s_is_letter) A.a_is_letter cdv B outer s H E).A (cxOf (L2.CX P w) P w K mg base ["value"] "is_letter" (defScope s_is_letter) A.a_is_letter cdv B outer s H E).env (cxOf (L2.CX P w) P w K mg base ["value"] "is_letter" (defScope s_is_letter) A.a_is_letter cdv B outer s H E).xe := passes_of rfl
    exact (ss_one (si_ret (ei_and (κ1 := 0) (ei_call (sg := sg_is_whole) (ok_is_whole T) hgd (hr.mono (by decide)) (by rfl) T.g_is_whole T.F_is_whole.kp (kb_is_whole_1 T) tk (ci_cons (c1_e (κ := 0) (xV 0)) ci_nil) cm_n) (ei_one (ei_chain op_le op_le lk_le lk_le (oe ei_int) (oe (xV 0)) (oe (ei_gc (by rfl) T.c_MOST_LETTER .int))))))))
theorem ok_is_word_by (T : Txt P w K mg A) : FnG P w K mg base (L2.CX P w) 5 A.a_is_word_by A.d_is_word_by ["value"] (spI (GG K A cl) sg_is_word_by F_is_word_by) :=
  fn_im (Γ' := [0, 0]) T.F_is_word_by sc_is_word_by rfl (by decide) (by decide) (.inl (by decide)) (fun cdv B outer s H E hgd hr => by
    have tk : Takes (cxOf (L2.CX P w) P w K mg base ["value", "one"] "is_word_by" (defScope s_is_word_by) A.a_is_word_by cdv B outer s H E) (fun c d _ H => E c d H) := takes_of rfl rfl rfl rfl
    have hW : WFree (fun c d _ H => E c d H) := wfree_of
    have ps : PassesOwn (model P w) (cxOf (L2.CX P w) P w K mg base ["value", "one"] "is_word_by" (defScope s_is_word_by) A.a_is_word_by cdv B outer s H E).A (cxOf (L2.CX P w) P w K mg base ["value", "one"] "is_word_by" (defScope s_is_word_by) A.a_is_word_by cdv B outer s H E).env (cxOf (L2.CX P w) P w K mg base ["value", "one"] "is_word_by" (defScope s_is_word_by) A.a_is_word_by cdv B outer s H E).xe := passes_of rfl
    exact (ss_one (si_ret (ei_and (κ1 := 0) (ei_isi (Ts := "list") rfl (by decide) (by rfl) T.b_isinstance bt_isinstance (by rfl) T.b_list bt_list (oe (xV 0))) (ei_and (κ1 := 0) (ei_cmp op_le lk_le rfl (oe (ei_b1 call_len (lk_len rfl) (by rfl) T.b_len bt_len (oe (xV 0)))) (oe (ei_gc (by rfl) T.c_MOST_LENGTH .int))) (ei_one (ei_b1 (cr_all rfl) lk_all (by rfl) T.b_all bt_all (oe (ei_low (κ := 1) (κ' := 0) (ei_lc (own := [("one", 1)]) rfl sc_is_word_by.nd (ii_any rfl (oi_v (xV 0))) (blkOk_by (show blkC ["value", "one"] (defScope s_is_word_by) _ [("one", 1)] = true by decide +kernel)) (fun _ _ _ _ _ => (tgN 1 sc_is_word_by.nd)) (fun _ _ _ _ _ => tt_nil) (fun _ _ _ _ _ => by have tk := @takesN; exact (ei_call (sg := sg_is_letter) (ok_is_letter T) hgd (hr.mono (by decide)) (by rfl) T.g_is_letter T.F_is_letter.kp (kb_is_letter_1 T) tk (ci_cons (c1_e (κ := 0) (xV 1)) ci_nil) cm_n))))))))))))
theorem ok_is_order_by (T : Txt P w K mg A) : FnG P w K mg base (L2.CX P w) 6 A.a_is_order_by A.d_is_order_by ["value"] (spI (GG K A cl) sg_is_order_by F_is_order_by) :=
  fn_im (Γ' := [0]) T.F_is_order_by sc_is_order_by rfl (by decide) (by decide) (.inl (by decide)) (fun cdv B outer s H E hgd hr => by
    have tk : Takes (cxOf (L2.CX P w) P w K mg base ["value"] "is_order_by" (defScope s_is_order_by) A.a_is_order_by cdv B outer s H E) (fun c d _ H => E c d H) := takes_of rfl rfl rfl rfl
    have hW : WFree (fun c d _ H => E c d H) := wfree_of
    have ps : PassesOwn (model P w) (cxOf (L2.CX P w) P w K mg base ["value"] "is_order_by" (defScope s_is_order_by) A.a_is_order_by cdv B outer s H E).A (cxOf (L2.CX P w) P w K mg base ["value"] "is_order_by" (defScope s_is_order_by) A.a_is_order_by cdv B outer s H E).env (cxOf (L2.CX P w) P w K mg base ["value"] "is_order_by" (defScope s_is_order_by) A.a_is_order_by cdv B outer s H E).xe := passes_of rfl
    exact (ss_one (si_ret (ei_and (κ1 := 0) (ei_call (sg := sg_is_word_by) (ok_is_word_by T) hgd (hr.mono (by decide)) (by rfl) T.g_is_word_by T.F_is_word_by.kp (kb_is_word_by_1 T) tk (ci_cons (c1_e (κ := 0) (xV 0)) ci_nil) cm_n) (ei_one (ei_cmp (op_eqD (hu64 hr)) (lk_eq rfl) rfl (oe (ei_low (κ := 1) (κ' := 0) (ei_sorted rfl (by rfl) T.b_sorted bt_sorted (oi_v (xV 0))))) (oe (ei_low (κ := 1) (κ' := 0) (ei_listRg2 rfl (by rfl) T.b_list (by rfl) T.b_range (oe ei_int) (oe (ei_bin op_addX lk_addX (oe (ei_b1 call_len (lk_len rfl) (by rfl) T.b_len bt_len (oe (xV 0)))) (oe ei_int))))))))))))
theorem ok_check_order (T : Txt P w K mg A) : FnG P w K mg base (L2.CX P w) 7 A.a_check_order A.d_check_order ["order"] (spI (GG K A cl) sg_check_order F_check_order) :=
  fn_im (Γ' := [0]) T.F_check_order sc_check_order rfl (by decide) (by decide) (.inl (by decide)) (fun cdv B outer s H E hgd hr => by
    have tk : Takes (cxOf (L2.CX P w) P w K mg base ["order"] "check_order" (defScope s_check_order) A.a_check_order cdv B outer s H E) (fun c d _ H => E c d H) := takes_of rfl rfl rfl rfl
    have hW : WFree (fun c d _ H => E c d H) := wfree_of
    have ps : PassesOwn (model P w) (cxOf (L2.CX P w) P w K mg base ["order"] "check_order" (defScope s_check_order) A.a_check_order cdv B outer s H E).A (cxOf (L2.CX P w) P w K mg base ["order"] "check_order" (defScope s_check_order) A.a_check_order cdv B outer s H E).env (cxOf (L2.CX P w) P w K mg base ["order"] "check_order" (defScope s_check_order) A.a_check_order cdv B outer s H E).xe := passes_of rfl
    exact (ss_one (si_if (ti_not (ti_val (κ := 0) (ei_call (sg := sg_is_order_by) (ok_is_order_by T) hgd (hr.mono (by decide)) (by rfl) T.g_is_order_by T.F_is_order_by.kp (kb_is_order_by_1 T) tk (ci_cons (c1_e (κ := 0) (xV 0)) ci_nil) cm_n))) (ss_one (si_raise rfl hW T.box T.kt_InvalidOrder hr T.k_InvalidOrder (cl_InvalidOrder T) rfl tk (xV 0))) ss_nil)))
theorem ok_whole_product (T : Txt P w K mg A) : FnG P w K mg base (L2.CX P w) 3 A.a_whole_product A.d_whole_product ["numbers"] (spI (GG K A cl) sg_whole_product F_whole_product) :=
  fn_im (Γ' := [0, 0, 0]) T.F_whole_product sc_whole_product rfl (by decide) (by decide) (.inl (by decide)) (fun cdv B outer s H E hgd hr => by
    have tk : Takes (cxOf (L2.CX P w) P w K mg base ["numbers", "found", "number"] "whole_product" (defScope s_whole_product) A.a_whole_product cdv B outer s H E) (fun c d _ H => E c d H) := takes_of rfl rfl rfl rfl
    have hW : WFree (fun c d _ H => E c d H) := wfree_of
    have ps : PassesOwn (model P w) (cxOf (L2.CX P w) P w K mg base ["numbers", "found", "number"] "whole_product" (defScope s_whole_product) A.a_whole_product cdv B outer s H E).A (cxOf (L2.CX P w) P w K mg base ["numbers", "found", "number"] "whole_product" (defScope s_whole_product) A.a_whole_product cdv B outer s H E).env (cxOf (L2.CX P w) P w K mg base ["numbers", "found", "number"] "whole_product" (defScope s_whole_product) A.a_whole_product cdv B outer s H E).xe := passes_of rfl
    exact (ss_cons (sSet (κ := 0) 1 sc_whole_product.nd hW ei_int)
      (ss_cons (si_for ps rfl hW (ii_any rfl (oi_v (xV 0))) (tgN 2 sc_whole_product.nd) (ss_one (sSet (κ := 0) 1 sc_whole_product.nd hW (ei_bin op_mulX lk_mulX (oe (xS 1)) (oe (xV 2))))))
      (ss_one (si_ret (xS 1))))))
theorem ok_check_size (T : Txt P w K mg A) : FnG P w K mg base (L2.CX P w) 4 A.a_check_size A.d_check_size ["size"] (spI (GG K A cl) sg_check_size F_check_size) :=
  fn_im (Γ' := [0]) T.F_check_size sc_check_size rfl (by decide) (by decide) (.inl (by decide)) (fun cdv B outer s H E hgd hr => by
    have tk : Takes (cxOf (L2.CX P w) P w K mg base ["size"] "check_size" (defScope s_check_size) A.a_check_size cdv B outer s H E) (fun c d _ H => E c d H) := takes_of rfl rfl rfl rfl
    have hW : WFree (fun c d _ H => E c d H) := wfree_of
    have ps : PassesOwn (model P w) (cxOf (L2.CX P w) P w K mg base ["size"] "check_size" (defScope s_check_size) A.a_check_size cdv B outer s H E).A (cxOf (L2.CX P w) P w K mg base ["size"] "check_size" (defScope s_check_size) A.a_check_size cdv B outer s H E).env (cxOf (L2.CX P w) P w K mg base ["size"] "check_size" (defScope s_check_size) A.a_check_size cdv B outer s H E).xe := passes_of rfl
    exact (ss_one (si_if (ti_of_wi (wi_or (ti_not (ti_val (κ := 0) (ei_call (sg := sg_is_whole) (ok_is_whole T) hgd (hr.mono (by decide)) (by rfl) T.g_is_whole T.F_is_whole.kp (kb_is_whole_1 T) tk (ci_cons (c1_e (κ := 0) (xV 0)) ci_nil) cm_n))) (wi_or1 (ti_not (ti_chain op_le op_le lk_le lk_le (oe ei_int) (oe (xV 0)) (oe ei_int)))))) (ss_one (si_raise rfl hW T.box T.kt_InvalidNumber hr T.k_InvalidNumber (cl_InvalidNumber T) rfl tk (xV 0))) ss_nil)))
theorem ok_code_by (T : Txt P w K mg A) : FnG P w K mg base (L2.CX P w) 3 A.a_code_by A.d_code_by ["order"] (spI (GG K A cl) sg_code_by F_code_by) :=
  fn_im (Γ' := [0, 0, 0, 0]) T.F_code_by sc_code_by rfl (by decide) (by decide) (.inl (by decide)) (fun cdv B outer s H E hgd hr => by
    have tk : Takes (cxOf (L2.CX P w) P w K mg base ["order", "at", "number", "late"] "code_by" (defScope s_code_by) A.a_code_by cdv B outer s H E) (fun c d _ H => E c d H) := takes_of rfl rfl rfl rfl
    have hW : WFree (fun c d _ H => E c d H) := wfree_of
    have ps : PassesOwn (model P w) (cxOf (L2.CX P w) P w K mg base ["order", "at", "number", "late"] "code_by" (defScope s_code_by) A.a_code_by cdv B outer s H E).A (cxOf (L2.CX P w) P w K mg base ["order", "at", "number", "late"] "code_by" (defScope s_code_by) A.a_code_by cdv B outer s H E).env (cxOf (L2.CX P w) P w K mg base ["order", "at", "number", "late"] "code_by" (defScope s_code_by) A.a_code_by cdv B outer s H E).xe := passes_of rfl
    exact (ss_one (si_ret (ei_lc (own := [("at", 1), ("number", 2)]) rfl sc_code_by.nd (ii_enum (by rfl) T.b_enumerate (oi_v (xV 0))) (blkOk_by (show blkC ["order", "at", "number", "late"] (defScope s_code_by) _ [("at", 1), ("number", 2)] = true by decide +kernel)) (fun _ _ _ _ _ => (tg_tup rfl (tgs_cons (tgN 1 sc_code_by.nd) (tgs_cons (tgN 2 sc_code_by.nd) tgs_nil)))) (fun _ _ _ _ _ => tt_nil) (fun _ _ _ _ _ => (ei_b1 call_len (lk_len rfl) (by rfl) T.b_len bt_len (oe (ei_low (κ := 1) (κ' := 0) (ei_lc (own := [("late", 3)]) rfl sc_code_by.nd (ii_any rfl (oi_v (ei_low (κ := 1) (κ' := 0) (ei_slice rfl (oi_v (xV 0)) (pi_s (oe (ei_bin op_addX lk_addX (oe (xS 1)) (oe ei_int)))) pi_n)))) (blkOk_by (show blkC ["order", "at", "number", "late"] _ _ [("late", 3)] = true by rfl)) (fun _ _ _ _ _ => (tgN 3 sc_code_by.nd)) (fun _ _ _ _ _ => (tt_one (ti_cmp op_lt lk_lt rfl (oe (xV 3)) (oe (xV 2))))) (fun _ _ _ _ _ => (xV 3)))))))))))
theorem ok_order_with (T : Txt P w K mg A) : FnG P w K mg base (L2.CX P w) 5 A.a_order_with A.d_order_with ["code"] (spI (GG K A cl) sg_order_with F_order_with) :=
  fn_im (Γ' := [0, 0, 1, 0, 0]) T.F_order_with sc_order_with rfl (by decide) (by decide) (.inl (by decide)) (fun cdv B outer s H E hgd hr => by
    have tk : Takes (cxOf (L2.CX P w) P w K mg base ["code", "left", "found", "one", "at"] "order_with" (defScope s_order_with) A.a_order_with cdv B outer s H E) (fun c d _ H => E c d H) := takes_of rfl rfl rfl rfl
    have hW : WFree (fun c d _ H => E c d H) := wfree_of
    have ps : PassesOwn (model P w) (cxOf (L2.CX P w) P w K mg base ["code", "left", "found", "one", "at"] "order_with" (defScope s_order_with) A.a_order_with cdv B outer s H E).A (cxOf (L2.CX P w) P w K mg base ["code", "left", "found", "one", "at"] "order_with" (defScope s_order_with) A.a_order_with cdv B outer s H E).env (cxOf (L2.CX P w) P w K mg base ["code", "left", "found", "one", "at"] "order_with" (defScope s_order_with) A.a_order_with cdv B outer s H E).xe := passes_of rfl
    exact (ss_cons (si_if (ti_of_wi (wi_or (ti_not (ti_val (κ := 0) (ei_isi (Ts := "list") rfl (by decide) (by rfl) T.b_isinstance bt_isinstance (by rfl) T.b_list bt_list (oe (xV 0))))) (wi_or (ti_cmp op_gt lk_gt rfl (oe (ei_b1 call_len (lk_len rfl) (by rfl) T.b_len bt_len (oe (xV 0)))) (oe ei_int)) (wi_or1 (ti_not (ti_val (κ := 0) (ei_b1 (cr_all rfl) lk_all (by rfl) T.b_all bt_all (oe (ei_low (κ := 1) (κ' := 0) (ei_lc (own := [("one", 3)]) rfl sc_order_with.nd (ii_any rfl (oi_v (xV 0))) (blkOk_by (show blkC ["code", "left", "found", "one", "at"] (defScope s_order_with) _ [("one", 3)] = true by decide +kernel)) (fun _ _ _ _ _ => (tgN 3 sc_order_with.nd)) (fun _ _ _ _ _ => tt_nil) (fun _ _ _ _ _ => by have tk := @takesN; exact (ei_call (sg := sg_is_count) (ok_is_count T) hgd (hr.mono (by decide)) (by rfl) T.g_is_count T.F_is_count.kp (kb_is_count_1 T) tk (ci_cons (c1_e (κ := 0) (xV 3)) ci_nil) cm_n)))))))))))) (ss_one (si_raise rfl hW T.box T.kt_InvalidList hr T.k_InvalidList (cl_InvalidList T) rfl tk (xV 0))) ss_nil)
      (ss_cons (si_if (ti_val (κ := 0) (ei_b1 (cr_any rfl) lk_any (by rfl) T.b_any bt_any (oe (ei_low (κ := 1) (κ' := 0) (ei_lc (own := [("at", 4), ("one", 3)]) rfl sc_order_with.nd (ii_enum (by rfl) T.b_enumerate (oi_v (xV 0))) (blkOk_by (show blkC ["code", "left", "found", "one", "at"] (defScope s_order_with) _ [("at", 4), ("one", 3)] = true by decide +kernel)) (fun _ _ _ _ _ => (tg_tup rfl (tgs_cons (tgN 4 sc_order_with.nd) (tgs_cons (tgN 3 sc_order_with.nd) tgs_nil)))) (fun _ _ _ _ _ => tt_nil) (fun _ _ _ _ _ => (ei_cmp op_ge lk_ge rfl (oe (xV 3)) (oe (ei_bin op_sub lk_sub (oe (ei_b1 call_len (lk_len rfl) (by rfl) T.b_len bt_len (oe (xV 0)))) (oe (xS 4))))))))))) (ss_one (si_raise rfl hW T.box T.kt_InvalidList hr T.k_InvalidList (cl_InvalidList T) rfl tk (xV 0))) ss_nil)
      (ss_cons (si_par (i := 1) (j := 2) rfl hW sc_order_with.nd rfl rfl rfl rfl (ai_cons (κ := 0) (ei_low (κ := 1) (κ' := 0) (ei_listRg2 rfl (by rfl) T.b_list (by rfl) T.b_range (oe ei_int) (oe (ei_bin op_addX lk_addX (oe (ei_b1 call_len (lk_len rfl) (by rfl) T.b_len bt_len (oe (xV 0)))) (oe ei_int))))) (ai_cons (κ := 1) (ei_lst (κ := 0) ai_nil) ai_nil)))
      (ss_cons (si_for ps rfl hW (ii_any rfl (oi_v (xV 0))) (tgN 3 sc_order_with.nd) (ss_cons (si_expr (κ := 0) (ei_append (κ := 0) (i := 2) rfl (visS (by first | exact Or.inl rfl | exact Or.inr (Or.inl rfl) | exact Or.inr (Or.inr rfl))) rfl rfl (ei_ix rfl (oe (xV 1)) (oe (xV 3)) (by intro _ _; rfl))))
      (ss_one (sSet (κ := 0) 1 sc_order_with.nd hW (ei_low (κ := 1) (κ' := 0) (ei_cat (oi_v (ei_low (κ := 1) (κ' := 0) (ei_slice rfl (oi_v (xV 1)) pi_n (pi_s (oe (xV 3)))))) (oi_v (ei_low (κ := 1) (κ' := 0) (ei_slice rfl (oi_v (xV 1)) (pi_s (oe (ei_bin op_addX lk_addX (oe (xV 3)) (oe ei_int)))) pi_n)))))))))
      (ss_one (si_ret (xM (κ := 1) 2))))))))
theorem ok_order_position (T : Txt P w K mg A) : FnG P w K mg base (L2.CX P w) 8 A.a_order_position A.d_order_position ["order"] (spI (GG K A cl) sg_order_position F_order_position) :=
  fn_im (Γ' := [0, 0, 0, 0]) T.F_order_position sc_order_position rfl (by decide) (by decide) (.inl (by decide)) (fun cdv B outer s H E hgd hr => by
    have tk : Takes (cxOf (L2.CX P w) P w K mg base ["order", "found", "at", "one"] "order_position" (defScope s_order_position) A.a_order_position cdv B outer s H E) (fun c d _ H => E c d H) := takes_of rfl rfl rfl rfl
    have hW : WFree (fun c d _ H => E c d H) := wfree_of
    have ps : PassesOwn (model P w) (cxOf (L2.CX P w) P w K mg base ["order", "found", "at", "one"] "order_position" (defScope s_order_position) A.a_order_position cdv B outer s H E).A (cxOf (L2.CX P w) P w K mg base ["order", "found", "at", "one"] "order_position" (defScope s_order_position) A.a_order_position cdv B outer s H E).env (cxOf (L2.CX P w) P w K mg base ["order", "found", "at", "one"] "order_position" (defScope s_order_position) A.a_order_position cdv B outer s H E).xe := passes_of rfl
    exact (ss_cons (si_expr (κ := 0) (ei_call (sg := sg_check_order) (ok_check_order T) hgd (hr.mono (by decide)) (by rfl) T.g_check_order T.F_check_order.kp (kb_check_order_1 T) tk (ci_cons (c1_e (κ := 0) (xV 0)) ci_nil) cm_n))
      (ss_cons (sSet (κ := 0) 1 sc_order_position.nd hW ei_int)
      (ss_cons (si_for ps rfl hW (ii_enum (by rfl) T.b_enumerate (oi_v (ei_low (κ := 1) (κ' := 0) (ei_call (sg := sg_code_by) (ok_code_by T) hgd (hr.mono (by decide)) (by rfl) T.g_code_by T.F_code_by.kp (kb_code_by_1 T) tk (ci_cons (c1_e (κ := 0) (xV 0)) ci_nil) cm_n)))) (tg_tup rfl (tgs_cons (tgN 2 sc_order_position.nd) (tgs_cons (tgN 3 sc_order_position.nd) tgs_nil))) (ss_one (sSet (κ := 0) 1 sc_order_position.nd hW (ei_bin op_addX lk_addX (oe (xS 1)) (oe (ei_bin op_mulX lk_mulX (oe (xV 3)) (oe (ei_call (sg := sg_whole_product) (ok_whole_product T) hgd (hr.mono (by decide)) (by rfl) T.g_whole_product T.F_whole_product.kp (kb_whole_product_1 T) tk (ci_cons (c1_e (κ := 0) (ei_low (κ := 1) (κ' := 0) (ei_listRg2 rfl (by rfl) T.b_list (by rfl) T.b_range (oe ei_int) (oe (ei_bin op_sub lk_sub (oe (ei_b1 call_len (lk_len rfl) (by rfl) T.b_len bt_len (oe (xV 0)))) (oe (xS 2))))))) ci_nil) cm_n))))))))
      (ss_one (si_ret (xS 1)))))))
theorem ok_order_at (T : Txt P w K mg A) : FnG P w K mg base (L2.CX P w) 6 A.a_order_at A.d_order_at ["size", "number"] (spI (GG K A cl) sg_order_at F_order_at) :=
  fn_im (Γ' := [0, 0, 0, 1, 0, 0]) T.F_order_at sc_order_at rfl (by decide) (by decide) (.inl (by decide)) (fun cdv B outer s H E hgd hr => by
    have tk : Takes (cxOf (L2.CX P w) P w K mg base ["size", "number", "left", "found", "place", "under"] "order_at" (defScope s_order_at) A.a_order_at cdv B outer s H E) (fun c d _ H => E c d H) := takes_of rfl rfl rfl rfl
    have hW : WFree (fun c d _ H => E c d H) := wfree_of
    have ps : PassesOwn (model P w) (cxOf (L2.CX P w) P w K mg base ["size", "number", "left", "found", "place", "under"] "order_at" (defScope s_order_at) A.a_order_at cdv B outer s H E).A (cxOf (L2.CX P w) P w K mg base ["size", "number", "left", "found", "place", "under"] "order_at" (defScope s_order_at) A.a_order_at cdv B outer s H E).env (cxOf (L2.CX P w) P w K mg base ["size", "number", "left", "found", "place", "under"] "order_at" (defScope s_order_at) A.a_order_at cdv B outer s H E).xe := passes_of rfl
    exact (ss_cons (si_expr (κ := 0) (ei_call (sg := sg_check_size) (ok_check_size T) hgd (hr.mono (by decide)) (by rfl) T.g_check_size T.F_check_size.kp (kb_check_size_1 T) tk (ci_cons (c1_e (κ := 0) (xV 0)) ci_nil) cm_n))
      (ss_cons (si_if (ti_of_wi (wi_or (ti_not (ti_val (κ := 0) (ei_call (sg := sg_is_whole) (ok_is_whole T) hgd (hr.mono (by decide)) (by rfl) T.g_is_whole T.F_is_whole.kp (kb_is_whole_1 T) tk (ci_cons (c1_e (κ := 0) (xV 1)) ci_nil) cm_n))) (wi_or1 (ti_not (ti_chain op_le op_lt lk_le lk_lt (oe ei_int) (oe (xV 1)) (oe (ei_call (sg := sg_whole_product) (ok_whole_product T) hgd (hr.mono (by decide)) (by rfl) T.g_whole_product T.F_whole_product.kp (kb_whole_product_1 T) tk (ci_cons (c1_e (κ := 0) (ei_low (κ := 1) (κ' := 0) (ei_listRg2 rfl (by rfl) T.b_list (by rfl) T.b_range (oe ei_int) (oe (ei_bin op_addX lk_addX (oe (xV 0)) (oe ei_int)))))) ci_nil) cm_n))))))) (ss_one (si_raise rfl hW T.box T.kt_InvalidNumber hr T.k_InvalidNumber (cl_InvalidNumber T) rfl tk (xV 1))) ss_nil)
      (ss_cons (si_par (i := 2) (j := 3) rfl hW sc_order_at.nd rfl rfl rfl rfl (ai_cons (κ := 0) (xV 1) (ai_cons (κ := 1) (ei_lst (κ := 0) ai_nil) ai_nil)))
      (ss_cons (si_for ps rfl hW (ii_rng1 (by rfl) T.b_range (oe (xV 0))) (tgN 4 sc_order_at.nd) (ss_cons (sSet (κ := 0) 5 sc_order_at.nd hW (ei_call (sg := sg_whole_product) (ok_whole_product T) hgd (hr.mono (by decide)) (by rfl) T.g_whole_product T.F_whole_product.kp (kb_whole_product_1 T) tk (ci_cons (c1_e (κ := 0) (ei_low (κ := 1) (κ' := 0) (ei_listRg2 rfl (by rfl) T.b_list (by rfl) T.b_range (oe ei_int) (oe (ei_bin op_sub lk_sub (oe (xV 0)) (oe (xS 4))))))) ci_nil) cm_n))
      (ss_cons (si_expr (κ := 0) (ei_append (κ := 0) (i := 3) rfl (visS (by first | exact Or.inl rfl | exact Or.inr (Or.inl rfl) | exact Or.inr (Or.inr rfl))) rfl rfl (ei_bin op_fdivN lk_div (oe (xV 2)) (oe (xV 5)))))
      (ss_one (sSet (κ := 0) 2 sc_order_at.nd hW (ei_bin op_sub lk_sub (oe (xV 2)) (oe (ei_bin op_mulX lk_mulX (oe (ei_bin op_fdivN lk_div (oe (xV 2)) (oe (xV 5)))) (oe (xV 5))))))))))
      (ss_one (si_ret (ei_call (sg := sg_order_with) (ok_order_with T) hgd (hr.mono (by decide)) (by rfl) T.g_order_with T.F_order_with.kp (kb_order_with_1 T) tk (ci_cons (c1_e (κ := 0) (ei_low (κ := 1) (κ' := 0) (xM (κ := 1) 3))) ci_nil) cm_n))))))))
theorem ok__law_hash (T : Txt P w K mg A) : FnG P w K mg base (L2.CX P w) 3 A.a__law_hash A.d__law_hash ["seed", "index"] (spI (GG K A cl) sg__law_hash F__law_hash) :=
  fn_im (Γ' := [0, 0, 0]) T.F__law_hash sc__law_hash rfl (by decide) (by decide) (.inl (by decide)) (fun cdv B outer s H E hgd hr => by
    have tk : Takes (cxOf (L2.CX P w) P w K mg base ["seed", "index", "mixed"] "_law_hash" (defScope s__law_hash) A.a__law_hash cdv B outer s H E) (fun c d _ H => E c d H) := takes_of rfl rfl rfl rfl
    have hW : WFree (fun c d _ H => E c d H) := wfree_of
    have ps : PassesOwn (model P w) (cxOf (L2.CX P w) P w K mg base ["seed", "index", "mixed"] "_law_hash" (defScope s__law_hash) A.a__law_hash cdv B outer s H E).A (cxOf (L2.CX P w) P w K mg base ["seed", "index", "mixed"] "_law_hash" (defScope s__law_hash) A.a__law_hash cdv B outer s H E).env (cxOf (L2.CX P w) P w K mg base ["seed", "index", "mixed"] "_law_hash" (defScope s__law_hash) A.a__law_hash cdv B outer s H E).xe := passes_of rfl
    exact (ss_cons (sSet (κ := 0) 2 sc__law_hash.nd hW (ei_bin op_modN lk_mod (oe (ei_t1 call_int1 lk_int (by rfl) T.b_int bt_int (oe (ei_bin op_addX lk_addX (oe (ei_bin op_addX lk_addX (oe (ei_bin op_mulX lk_mulX (oe (xS 0)) (oe ei_int))) (oe (ei_bin op_mulX lk_mulX (oe (xS 1)) (oe ei_int))))) (oe ei_int))))) (oe ei_int)))
      (ss_cons (sSet (κ := 0) 2 sc__law_hash.nd hW (ei_bin op_modN lk_mod (oe (ei_t1 call_int1 lk_int (by rfl) T.b_int bt_int (oe (ei_bin op_addX lk_addX (oe (ei_bin op_addX lk_addX (oe (ei_bin op_mulX lk_mulX (oe (xS 2)) (oe (xS 2)))) (oe (ei_bin op_mulX lk_mulX (oe ei_int) (oe (xS 1)))))) (oe ei_int))))) (oe ei_int)))
      (ss_one (si_ret (ei_bin op_modN lk_mod (oe (ei_t1 call_int1 lk_int (by rfl) T.b_int bt_int (oe (ei_bin op_mulX lk_mulX (oe (xS 2)) (oe (ei_bin op_addX lk_addX (oe (xS 2)) (oe ei_int))))))) (oe ei_int)))))))
theorem ok__law_random (T : Txt P w K mg A) : FnG P w K mg base (L2.CX P w) 4 A.a__law_random A.d__law_random ["generator", "bound"] (spI (GG K A cl) sg__law_random F__law_random) :=
  fn_im (Γ' := [1, 0, 0, 0]) T.F__law_random sc__law_random rfl (by decide) (by decide) (.inl (by decide)) (fun cdv B outer s H E hgd hr => by
    have tk : Takes (cxOf (L2.CX P w) P w K mg base ["generator", "bound", "drawn", "turn"] "_law_random" (defScope s__law_random) A.a__law_random cdv B outer s H E) (fun c d _ H => E c d H) := takes_of rfl rfl rfl rfl
    have hW : WFree (fun c d _ H => E c d H) := wfree_of
    have ps : PassesOwn (model P w) (cxOf (L2.CX P w) P w K mg base ["generator", "bound", "drawn", "turn"] "_law_random" (defScope s__law_random) A.a__law_random cdv B outer s H E).A (cxOf (L2.CX P w) P w K mg base ["generator", "bound", "drawn", "turn"] "_law_random" (defScope s__law_random) A.a__law_random cdv B outer s H E).env (cxOf (L2.CX P w) P w K mg base ["generator", "bound", "drawn", "turn"] "_law_random" (defScope s__law_random) A.a__law_random cdv B outer s H E).xe := passes_of rfl
    exact (ss_cons (si_if (ti_cmp op_gt lk_gt rfl (oe (ei_ixv rfl (xN 0) (oe ei_int) (by intro _ _; rfl))) (oe ei_int)) (ss_cons (sSet (κ := 0) 2 sc__law_random.nd hW (ei_bin op_modN lk_mod (oe (ei_t1 call_int1 lk_int (by rfl) T.b_int bt_int (oe (ei_ixv rfl (xN 0) (oe ei_int) (by intro _ _; rfl))))) (oe (xS 1))))
      (ss_cons (si_asg hW (ei_bin op_fdivN lk_div (oe (ei_ixv rfl (xN 0) (oe ei_int) (by intro _ _; rfl))) (oe (xS 1))) (tg_sub (i := 0) rfl (visS (by first | exact Or.inl rfl | exact Or.inr (Or.inl rfl) | exact Or.inr (Or.inr rfl))) rfl (oe ei_int)))
      (ss_one (si_ret (xS 2))))) ss_nil)
      (ss_cons (sSet (κ := 0) 2 sc__law_random.nd hW ei_int)
      (ss_cons (si_for ps rfl hW (ii_rng1 (by rfl) T.b_range (oe (ei_bin op_addX lk_addX (oe ei_int) (oe (ei_bin op_fdivN lk_div (oe (ei_bits (oe (xS 1)))) (oe ei_int)))))) (tgN 3 sc__law_random.nd) (ss_cons (si_asg hW (ei_bin op_addX lk_addX (oe (ei_ixv rfl (xN 0) (oe ei_int) (by intro _ _; rfl))) (oe ei_int)) (tg_sub (i := 0) rfl (visS (by first | exact Or.inl rfl | exact Or.inr (Or.inl rfl) | exact Or.inr (Or.inr rfl))) rfl (oe ei_int)))
      (ss_one (sSet (κ := 0) 2 sc__law_random.nd hW (ei_bin op_addX lk_addX (oe (ei_bin op_mulX lk_mulX (oe (xS 2)) (oe ei_int))) (oe (ei_call (sg := sg__law_hash) (ok__law_hash T) hgd (hr.mono (by decide)) (by rfl) T.g__law_hash T.F__law_hash.kp (kb_law_hash_2 T) tk (ci_cons (c1_e (κ := 0) (ei_ixv rfl (xN 0) (oe ei_int) (by intro _ _; rfl))) (ci_cons (c1_e (κ := 0) (ei_ixv rfl (xN 0) (oe ei_int) (by intro _ _; rfl))) ci_nil)) cm_n)))))))
      (ss_one (si_ret (ei_bin op_modN lk_mod (oe (ei_t1 call_int1 lk_int (by rfl) T.b_int bt_int (oe (xS 2)))) (oe (xS 1)))))))))
theorem ok__law_cell (T : Txt P w K mg A) : FnG P w K mg base (L2.CX P w) 3 A.a__law_cell A.d__law_cell ["script", "index"] (spI (GG K A cl) sg__law_cell F__law_cell) :=
  fn_im (Γ' := [0, 0]) T.F__law_cell sc__law_cell rfl (by decide) (by decide) (.inl (by decide)) (fun cdv B outer s H E hgd hr => by
    have tk : Takes (cxOf (L2.CX P w) P w K mg base ["script", "index"] "_law_cell" (defScope s__law_cell) A.a__law_cell cdv B outer s H E) (fun c d _ H => E c d H) := takes_of rfl rfl rfl rfl
    have hW : WFree (fun c d _ H => E c d H) := wfree_of
    have ps : PassesOwn (model P w) (cxOf (L2.CX P w) P w K mg base ["script", "index"] "_law_cell" (defScope s__law_cell) A.a__law_cell cdv B outer s H E).A (cxOf (L2.CX P w) P w K mg base ["script", "index"] "_law_cell" (defScope s__law_cell) A.a__law_cell cdv B outer s H E).env (cxOf (L2.CX P w) P w K mg base ["script", "index"] "_law_cell" (defScope s__law_cell) A.a__law_cell cdv B outer s H E).xe := passes_of rfl
    exact (ss_cons (si_if (ti_cmp op_lt lk_lt rfl (oe (xS 1)) (oe (ei_b1 call_len (lk_len rfl) (by rfl) T.b_len bt_len (oe (xV 0))))) (ss_one (si_ret (ei_ix rfl (oe (xV 0)) (oe (xS 1)) (by intro _ _; rfl)))) ss_nil)
      (ss_one (si_ret (ei_bin op_modN lk_mod (oe (ei_b1 (cr_sum rfl) lk_sum (by rfl) T.b_sum bt_sum (oe (ei_low (κ := 1) (κ' := 0) (ei_slice rfl (oi_v (xV 0)) pi_n (pi_s (oe ei_int))))))) (oe ei_int))))))
theorem ok__law_generator (T : Txt P w K mg A) : FnG P w K mg base (L2.CX P w) 4 A.a__law_generator A.d__law_generator ["script", "index"] (spI (GG K A cl) sg__law_generator F__law_generator) :=
  fn_im (Γ' := [0, 0, 0]) T.F__law_generator sc__law_generator rfl (by decide) (by decide) (.inl (by decide)) (fun cdv B outer s H E hgd hr => by
    have tk : Takes (cxOf (L2.CX P w) P w K mg base ["script", "index", "seed"] "_law_generator" (defScope s__law_generator) A.a__law_generator cdv B outer s H E) (fun c d _ H => E c d H) := takes_of rfl rfl rfl rfl
    have hW : WFree (fun c d _ H => E c d H) := wfree_of
    have ps : PassesOwn (model P w) (cxOf (L2.CX P w) P w K mg base ["script", "index", "seed"] "_law_generator" (defScope s__law_generator) A.a__law_generator cdv B outer s H E).A (cxOf (L2.CX P w) P w K mg base ["script", "index", "seed"] "_law_generator" (defScope s__law_generator) A.a__law_generator cdv B outer s H E).env (cxOf (L2.CX P w) P w K mg base ["script", "index", "seed"] "_law_generator" (defScope s__law_generator) A.a__law_generator cdv B outer s H E).xe := passes_of rfl
    exact (ss_cons (sSet (κ := 0) 2 sc__law_generator.nd hW (ei_call (sg := sg__law_cell) (ok__law_cell T) hgd (hr.mono (by decide)) (by rfl) T.g__law_cell T.F__law_cell.kp (kb_law_cell_2 T) tk (ci_cons (c1_e (κ := 0) (xV 0)) (ci_cons (c1_e (κ := 0) (xS 1)) ci_nil)) cm_n))
      (ss_one (si_ret (ei_lst (κ := 0) (ai_cons (κ := 0) (ei_bin op_modN lk_mod (oe (ei_t1 call_int1 lk_int (by rfl) T.b_int bt_int (oe (ei_b2 (call_max2 rfl) lk_max (by rfl) T.b_max bt_max (oe (ei_bin op_sub lk_sub (oe (xS 2)) (oe (ei_bin op_powG lk_pow (oe ei_int) (oe ei_int))))) (oe ei_int))))) (oe (ei_bin op_powG lk_pow (oe (ei_bin op_powG lk_pow (oe ei_int) (oe ei_int))) (oe ei_int)))) (ai_cons (κ := 0) (ei_bin op_modN lk_mod (oe (ei_t1 call_int1 lk_int (by rfl) T.b_int bt_int (oe (xS 2)))) (oe ei_int)) (ai_cons (κ := 0) (ei_bin op_mulX lk_mulX (oe ei_int) (oe (xS 1))) ai_nil))))))))
theorem ok__law_exact (T : Txt P w K mg A) : FnG P w K mg base (L2.CX P w) 3 A.a__law_exact A.d__law_exact ["told", "due"] (spI (GG K A cl) sg__law_exact F__law_exact) :=
  fn_im (Γ' := [0, 0]) T.F__law_exact sc__law_exact rfl (by decide) (by decide) (.inl (by decide)) (fun cdv B outer s H E hgd hr => by
    have tk : Takes (cxOf (L2.CX P w) P w K mg base ["told", "due"] "_law_exact" (defScope s__law_exact) A.a__law_exact cdv B outer s H E) (fun c d _ H => E c d H) := takes_of rfl rfl rfl rfl
    have hW : WFree (fun c d _ H => E c d H) := wfree_of
    have ps : PassesOwn (model P w) (cxOf (L2.CX P w) P w K mg base ["told", "due"] "_law_exact" (defScope s__law_exact) A.a__law_exact cdv B outer s H E).A (cxOf (L2.CX P w) P w K mg base ["told", "due"] "_law_exact" (defScope s__law_exact) A.a__law_exact cdv B outer s H E).env (cxOf (L2.CX P w) P w K mg base ["told", "due"] "_law_exact" (defScope s__law_exact) A.a__law_exact cdv B outer s H E).xe := passes_of rfl
    exact (ss_one (si_ret (ei_and (κ1 := 0) (ei_cmp (op_eqX (hu65 hr)) (lk_eqE rfl) rfl (oe (xV 0)) (oe (xV 1))) (ei_one (ei_cmp (op_eqX (hu65 hr)) (lk_eqE rfl) rfl (oe (ei_b1 (call_reprE hgd (hu65 hr)) (lk_reprE rfl) (by rfl) T.b_repr bt_repr (oe (xV 0)))) (oe (ei_b1 (call_reprE hgd (hu65 hr)) (lk_reprE rfl) (by rfl) T.b_repr bt_repr (oe (xV 1))))))))))
theorem ok__law_order (T : Txt P w K mg A) : FnG P w K mg base (L2.CX P w) 5 A.a__law_order A.d__law_order ["generator", "items"] (spI (GG K A cl) sg__law_order F__law_order) :=
  fn_im (Γ' := [1, 0, 1, 1, 0]) T.F__law_order sc__law_order rfl (by decide) (by decide) (.inl (by decide)) (fun cdv B outer s H E hgd hr => by
    have tk : Takes (cxOf (L2.CX P w) P w K mg base ["generator", "items", "left", "found", "turn"] "_law_order" (defScope s__law_order) A.a__law_order cdv B outer s H E) (fun c d _ H => E c d H) := takes_of rfl rfl rfl rfl
    have hW : WFree (fun c d _ H => E c d H) := wfree_of
    have ps : PassesOwn (model P w) (cxOf (L2.CX P w) P w K mg base ["generator", "items", "left", "found", "turn"] "_law_order" (defScope s__law_order) A.a__law_order cdv B outer s H E).A (cxOf (L2.CX P w) P w K mg base ["generator", "items", "left", "found", "turn"] "_law_order" (defScope s__law_order) A.a__law_order cdv B outer s H E).env (cxOf (L2.CX P w) P w K mg base ["generator", "items", "left", "found", "turn"] "_law_order" (defScope s__law_order) A.a__law_order cdv B outer s H E).xe := passes_of rfl
    exact (ss_cons (si_par (i := 2) (j := 3) rfl hW sc__law_order.nd rfl rfl rfl rfl (ai_cons (κ := 1) (ei_list (by rfl) T.b_list bt_list (oi_v (xV 1))) (ai_cons (κ := 1) (ei_lst (κ := 0) ai_nil) ai_nil)))
      (ss_cons (si_for ps rfl hW (ii_rng1 (by rfl) T.b_range (oe (ei_b1 call_len (lk_len rfl) (by rfl) T.b_len bt_len (oe (xV 1))))) (tgN 4 sc__law_order.nd) (ss_one (si_expr (κ := 0) (ei_append (κ := 0) (i := 3) rfl (visS (by first | exact Or.inl rfl | exact Or.inr (Or.inl rfl) | exact Or.inr (Or.inr rfl))) rfl rfl (ei_popAt (κ := 0) (i := 2) rfl (visS (by first | exact Or.inl rfl | exact Or.inr (Or.inl rfl) | exact Or.inr (Or.inr rfl))) rfl rfl (oe (ei_call (sg := sg__law_random) (ok__law_random T) hgd (hr.mono (by decide)) (by rfl) T.g__law_random T.F__law_random.kp (kb_law_random_2 T) tk (ci_cons (xR (κ := 1) 0) (ci_cons (c1_e (κ := 0) (ei_b1 call_len (lk_len rfl) (by rfl) T.b_len bt_len (xN 2))) ci_nil)) (cm_r (Γ' := [1, 0, 1, 1, 0]) 0 0 0 1))))))))
      (ss_one (si_ret (xM (κ := 1) 3))))))
theorem ok_mk0 (T : Txt P w K mg A) : ∀ n : Nat, FnG P w K mg base (L2.CX P w) (3 + n) A.a__law_marked A.d__law_marked ["told"] (spI (GG K A cl) ⟨[0], [some 0], 0⟩ (F_mk0 n))
  | 0 => ⟨fun vs H Q E h => h.1, fun _ _ _ _ _ _ _ _ _ _ _ _ _ _ ⟨_, _, _, _, _, _, z⟩ => z.elim⟩
  | n + 1 => by
    have rc := ok_mk0 T n
    skip
    show FnG P w K mg base (L2.CX P w) (3 + n + 1) A.a__law_marked A.d__law_marked ["told"] (spI (GG K A cl) ⟨[0], [some 0], 0⟩ (runF 3 [some 0] (m_mk0 (F_mk0 n))))
    exact fn_im (sg := ⟨[0], [some 0], 0⟩) (Γ' := [0, 0, 0]) T.F__law_marked sc__law_marked rfl (by decide) (by decide) (.inl (by decide)) (fun cdv B outer s H E hgd hr => by
    have tk : Takes (cxOf (L2.CX P w) P w K mg base ["told", "kept", "item"] "_law_marked" (defScope s__law_marked) A.a__law_marked cdv B outer s H E) (fun c d _ H => E c d H) := takes_of rfl rfl rfl rfl
    have hW : WFree (fun c d _ H => E c d H) := wfree_of
    exact (ss_cons (si_if (ti_val (κ := 0) (ei_isi (Ts := "list") rfl (by decide) (by rfl) T.b_isinstance bt_isinstance (by rfl) T.b_list bt_list (oe (xV 0)))) (ss_bad (Γ2 := [0, 0, 0])) ss_nil)
      (ss_one (si_ret (ei_or (κ1 := 0) (ei_not (κ1 := 0) (ei_isi (Ts := "tuple") rfl (by decide) (by rfl) T.b_isinstance bt_isinstance (by rfl) T.b_tuple bt_tuple (oe (xV 0)))) (ei_one (ei_cmp (op_notInD (hu64 hr)) (lk_inD rfl) rfl (oe ei_bl) (oe (ei_low (κ := 1) (κ' := 0) (ei_mark (i := 0) (j := 2) (k := 0) (seqy_tup _) (fun d ds h => by cases d <;> cases h; rfl) rfl sc__law_marked.nd (pi_markT rfl (visS (by first | exact Or.inl rfl | exact Or.inr (Or.inl rfl) | exact Or.inr (Or.inr rfl)))) (blkOk_by (show blkC ["told", "kept", "item"] (defScope s__law_marked) _ [("item", 2)] = true by decide +kernel)) (fun _ _ _ _ _ => pg_name sc__law_marked.nd rfl (by first | exact Or.inl rfl | exact Or.inr rfl) (by first | exact .inl rfl | exact .inr rfl)) (fun _ _ _ _ _ => pe_mark rc hgd hr (by rfl) T.g__law_marked T.F__law_marked.kp (kb_law_marked_1 T) takes0 rfl (visS (by first | exact Or.inl rfl | exact Or.inr (Or.inl rfl) | exact Or.inr (Or.inr rfl))))))))))))))
theorem ok_mk1 (T : Txt P w K mg A) : ∀ n : Nat, FnG P w K mg base (L2.CX P w) (3 + n) A.a__law_marked A.d__law_marked ["told"] (spI (GG K A cl) ⟨[1], [some 1], 0⟩ (F_mk1 n))
  | 0 => ⟨fun vs H Q E h => h.1, fun _ _ _ _ _ _ _ _ _ _ _ _ _ _ ⟨_, _, _, _, _, _, z⟩ => z.elim⟩
  | n + 1 => by
    have rc := ok_mk1 T n
    have rci := ok_mk0 (base := base) (cl := cl) T n
    show FnG P w K mg base (L2.CX P w) (3 + n + 1) A.a__law_marked A.d__law_marked ["told"] (spI (GG K A cl) ⟨[1], [some 1], 0⟩ (runF 3 [some 1] (m_mk1 (F_mk0 n) (F_mk1 n))))
    exact fn_im (sg := ⟨[1], [some 1], 0⟩) (Γ' := [1, 0, 0]) T.F__law_marked sc__law_marked rfl (by decide) (by decide) (.inl (by decide)) (fun cdv B outer s H E hgd hr => by
    have tk : Takes (cxOf (L2.CX P w) P w K mg base ["told", "kept", "item"] "_law_marked" (defScope s__law_marked) A.a__law_marked cdv B outer s H E) (fun c d _ H => E c d H) := takes_of rfl rfl rfl rfl
    have hW : WFree (fun c d _ H => E c d H) := wfree_of
    exact (ss_cons (si_if (ti_val (κ := 0) (ei_isi (Ts := "list") rfl (by decide) (by rfl) T.b_isinstance bt_isinstance (by rfl) T.b_list bt_list (oe (xL 0)))) (ss_cons (si_if (ti_of_wi (wi_and (ti_cmp (op_neD (hu64 hr)) (lk_ne rfl) rfl (oe (xL 0)) (oe (ei_low (κ := 1) (κ' := 0) (ei_lst (κ := 0) ai_nil)))) (wi_and1 (ti_cmp (op_eqD (hu64 hr)) (lk_eq rfl) rfl (oe (ei_ix rfl (oe (xL 0)) (oe ei_neg) (by intro _ _; rfl))) (oe ei_str))))) (ss_one (si_ret ei_bl)) ss_nil)
      (ss_cons (si_setMark (i := 0) (j := 2) (k := 0) (seqy_lst _) (fun d ds h => by cases d <;> cases h; rfl) rfl sc__law_marked.nd hW rfl rfl (sw_true rfl rfl rfl rfl) (pi_markL rfl (visS (by first | exact Or.inl rfl | exact Or.inr (Or.inl rfl) | exact Or.inr (Or.inr rfl)))) (blkOk_by (show blkC ["told", "kept", "item"] (defScope s__law_marked) _ [("item", 2)] = true by decide +kernel)) (fun _ _ _ _ _ => pg_name sc__law_marked.nd rfl (by first | exact Or.inl rfl | exact Or.inr rfl) (by first | exact .inl rfl | exact .inr rfl)) (fun _ _ _ _ _ => pe_mark rci hgd hr (by rfl) T.g__law_marked T.F__law_marked.kp (kb_law_marked_1 T) takes0 rfl (visS (by first | exact Or.inl rfl | exact Or.inr (Or.inl rfl) | exact Or.inr (Or.inr rfl)))))
      (ss_cons (si_expr (κ := 0) (ei_append (κ := 0) (i := 0) rfl (visS (by first | exact Or.inl rfl | exact Or.inr (Or.inl rfl) | exact Or.inr (Or.inr rfl))) rfl rfl ei_str))
      (ss_one (si_ret (ei_cmp (op_notInD (hu64 hr)) (lk_inD rfl) rfl (oe ei_bl) (xN 1))))))) ss_nil)
      (ss_one (si_ret (ei_or (κ1 := 0) (ei_not (κ1 := 0) (ei_isi (Ts := "tuple") rfl (by decide) (by rfl) T.b_isinstance bt_isinstance (by rfl) T.b_tuple bt_tuple (oe (xL 0)))) (ei_one (ei_cmp (op_notInD (hu64 hr)) (lk_inD rfl) rfl (oe ei_bl) (oe (ei_low (κ := 1) (κ' := 0) (ei_mark (i := 0) (j := 2) (k := 1) (seqy_tup _) (fun d ds h => by cases d <;> cases h; rfl) rfl sc__law_marked.nd (pi_markT rfl (visS (by first | exact Or.inl rfl | exact Or.inr (Or.inl rfl) | exact Or.inr (Or.inr rfl)))) (blkOk_by (show blkC ["told", "kept", "item"] (defScope s__law_marked) _ [("item", 2)] = true by decide +kernel)) (fun _ _ _ _ _ => pg_name sc__law_marked.nd rfl (by first | exact Or.inl rfl | exact Or.inr rfl) (by first | exact .inl rfl | exact .inr rfl)) (fun _ _ _ _ _ => pe_mark rc hgd hr (by rfl) T.g__law_marked T.F__law_marked.kp (kb_law_marked_1 T) takes0 rfl (visS (by first | exact Or.inl rfl | exact Or.inr (Or.inl rfl) | exact Or.inr (Or.inr rfl))))))))))))))
theorem ok_mk2 (T : Txt P w K mg A) : ∀ n : Nat, FnG P w K mg base (L2.CX P w) (3 + n) A.a__law_marked A.d__law_marked ["told"] (spI (GG K A cl) ⟨[2], [some 2], 0⟩ (F_mk2 n))
  | 0 => ⟨fun vs H Q E h => h.1, fun _ _ _ _ _ _ _ _ _ _ _ _ _ _ ⟨_, _, _, _, _, _, z⟩ => z.elim⟩
  | n + 1 => by
    have rc := ok_mk2 T n
    have rci := ok_mk1 (base := base) (cl := cl) T n
    show FnG P w K mg base (L2.CX P w) (3 + n + 1) A.a__law_marked A.d__law_marked ["told"] (spI (GG K A cl) ⟨[2], [some 2], 0⟩ (runF 3 [some 2] (m_mk2 (F_mk1 n) (F_mk2 n))))
    exact fn_im (sg := ⟨[2], [some 2], 0⟩) (Γ' := [2, 0, 0]) T.F__law_marked sc__law_marked rfl (by decide) (by decide) (.inl (by decide)) (fun cdv B outer s H E hgd hr => by
    have tk : Takes (cxOf (L2.CX P w) P w K mg base ["told", "kept", "item"] "_law_marked" (defScope s__law_marked) A.a__law_marked cdv B outer s H E) (fun c d _ H => E c d H) := takes_of rfl rfl rfl rfl
    have hW : WFree (fun c d _ H => E c d H) := wfree_of
    exact (ss_cons (si_if (ti_val (κ := 0) (ei_isi (Ts := "list") rfl (by decide) (by rfl) T.b_isinstance bt_isinstance (by rfl) T.b_list bt_list (oe (xL 0)))) (ss_cons (si_if (ti_of_wi (wi_and (ti_cmp (op_neD (hu64 hr)) (lk_ne rfl) rfl (oe (xL 0)) (oe (ei_low (κ := 1) (κ' := 0) (ei_lst (κ := 0) ai_nil)))) (wi_and1 (ti_cmp (op_eqD (hu64 hr)) (lk_eq rfl) rfl (oe (ei_ix rfl (oe (xL 0)) (oe ei_neg) (by intro _ _; rfl))) (oe ei_str))))) (ss_one (si_ret ei_bl)) ss_nil)
      (ss_cons (si_setMark (i := 0) (j := 2) (k := 1) (seqy_lst _) (fun d ds h => by cases d <;> cases h; rfl) rfl sc__law_marked.nd hW rfl rfl (sw_true rfl rfl rfl rfl) (pi_markL rfl (visS (by first | exact Or.inl rfl | exact Or.inr (Or.inl rfl) | exact Or.inr (Or.inr rfl)))) (blkOk_by (show blkC ["told", "kept", "item"] (defScope s__law_marked) _ [("item", 2)] = true by decide +kernel)) (fun _ _ _ _ _ => pg_name sc__law_marked.nd rfl (by first | exact Or.inl rfl | exact Or.inr rfl) (by first | exact .inl rfl | exact .inr rfl)) (fun _ _ _ _ _ => pe_mark rci hgd hr (by rfl) T.g__law_marked T.F__law_marked.kp (kb_law_marked_1 T) takes0 rfl (visS (by first | exact Or.inl rfl | exact Or.inr (Or.inl rfl) | exact Or.inr (Or.inr rfl)))))
      (ss_cons (si_expr (κ := 0) (ei_append (κ := 1) (i := 0) rfl (visS (by first | exact Or.inl rfl | exact Or.inr (Or.inl rfl) | exact Or.inr (Or.inr rfl))) rfl rfl ei_str))
      (ss_one (si_ret (ei_cmp (op_notInD (hu64 hr)) (lk_inD rfl) rfl (oe ei_bl) (xN 1))))))) ss_nil)
      (ss_one (si_ret (ei_or (κ1 := 0) (ei_not (κ1 := 0) (ei_isi (Ts := "tuple") rfl (by decide) (by rfl) T.b_isinstance bt_isinstance (by rfl) T.b_tuple bt_tuple (oe (xL 0)))) (ei_one (ei_cmp (op_notInD (hu64 hr)) (lk_inD rfl) rfl (oe ei_bl) (oe (ei_low (κ := 1) (κ' := 0) (ei_mark (i := 0) (j := 2) (k := 2) (seqy_tup _) (fun d ds h => by cases d <;> cases h; rfl) rfl sc__law_marked.nd (pi_markT rfl (visS (by first | exact Or.inl rfl | exact Or.inr (Or.inl rfl) | exact Or.inr (Or.inr rfl)))) (blkOk_by (show blkC ["told", "kept", "item"] (defScope s__law_marked) _ [("item", 2)] = true by decide +kernel)) (fun _ _ _ _ _ => pg_name sc__law_marked.nd rfl (by first | exact Or.inl rfl | exact Or.inr rfl) (by first | exact .inl rfl | exact .inr rfl)) (fun _ _ _ _ _ => pe_mark rc hgd hr (by rfl) T.g__law_marked T.F__law_marked.kp (kb_law_marked_1 T) takes0 rfl (visS (by first | exact Or.inl rfl | exact Or.inr (Or.inl rfl) | exact Or.inr (Or.inr rfl))))))))))))))
theorem ok__law_marked (T : Txt P w K mg A) : FnG P w K mg base (L2.CX P w) 9 A.a__law_marked A.d__law_marked ["told"] (spI (GG K A cl) sg__law_marked F__law_marked) := ok_mk2 T 6
theorem lo_all {Tt : List (Addr × Str)} (T : Txt P w K mg A) : LamsOk P w K mg base (GG K A (ClT.of Tt LT base)) LT CF kLam where
  ok := fun n L h => by
    match n, h with
    | 0, h => cases h; decide +kernel
    | 1, h => cases h; decide +kernel
    | 2, h => cases h; decide +kernel
    | n + 3, h => cases h
  bind := fun n L h => by
    match n, h with
    | 0, h => cases h; exact fun _ _ _ _ _ => rfl
    | 1, h => cases h; exact fun _ _ _ _ _ => rfl
    | 2, h => cases h; exact fun _ _ _ _ _ => rfl
    | n + 3, h => cases h
  body := fun n L h => by
    match n, h with
    | 0, h => cases h; exact ⟨m_lam0, [0], fun _ => rfl, fun q cm f cd B outer s H E hgd hr => by
      have tk : Takes (lamX P w K mg base lam_0.1 q cm f cd B outer s H E) (fun c d _ H => E c d H) := takes_of rfl rfl rfl rfl
      show EI (lamX P w K mg base lam_0.1 q cm f cd B outer s H E) (GG K A (ClT.of Tt LT base)) (fun c d _ H => E c d H) [] [0] _ 0 [] [0] m_lam0
      exact (ei_low (κ := 1) (κ' := 0) (ei_call (sg := sg_order_at) (ok_order_at T) hgd (hr.mono (by decide)) (by rfl) T.g_order_at T.F_order_at.kp (kb_order_at_2 T) tk (ci_cons (c1_e (κ := 0) (xV 0)) (ci_cons (c1_e (κ := 0) ei_non) ci_nil)) cm_n))⟩
    | 1, h => cases h; exact ⟨m_lam1, [0, 0], fun _ => rfl, fun q cm f cd B outer s H E hgd hr => by
      have tk : Takes (lamX P w K mg base lam_1.1 q cm f cd B outer s H E) (fun c d _ H => E c d H) := takes_of rfl rfl rfl rfl
      show EI (lamX P w K mg base lam_1.1 q cm f cd B outer s H E) (GG K A (ClT.of Tt LT base)) (fun c d _ H => E c d H) [] [0, 0] _ 0 [] [0, 0] m_lam1
      exact (ei_low (κ := 1) (κ' := 0) (ei_call (sg := sg_order_at) (ok_order_at T) hgd (hr.mono (by decide)) (by rfl) T.g_order_at T.F_order_at.kp (kb_order_at_2 T) tk (ci_cons (c1_e (κ := 0) (ei_b1 call_len (lk_len rfl) (by rfl) T.b_len bt_len (oe (xV 1)))) (ci_cons (c1_e (κ := 0) (xV 0)) ci_nil)) cm_n))⟩
    | 2, h => cases h; exact ⟨m_lam2, [0], fun _ => rfl, fun q cm f cd B outer s H E hgd hr => by
      have tk : Takes (lamX P w K mg base lam_2.1 q cm f cd B outer s H E) (fun c d _ H => E c d H) := takes_of rfl rfl rfl rfl
      show EI (lamX P w K mg base lam_2.1 q cm f cd B outer s H E) (GG K A (ClT.of Tt LT base)) (fun c d _ H => E c d H) [] [0] _ 0 [] [0] m_lam2
      exact (ei_call (sg := sg_order_position) (ok_order_position T) hgd (hr.mono (by decide)) (by rfl) T.g_order_position T.F_order_position.kp (kb_order_position_1 T) tk (ci_cons (c1_e (κ := 0) (xV 0)) ci_nil) cm_n)⟩
    | n + 3, h => cases h
theorem ok__law_caught {Tt : List (Addr × Str)} (T : Txt P w K mg A) : FnG P w K mg base (L2.CX P w) 10 A.a__law_caught A.d__law_caught ["call"] (spI (GG K A (ClT.of Tt LT base)) sg__law_caught F__law_caught) :=
  fn_im (Γ' := [0, 0, 0, 0]) T.F__law_caught sc__law_caught rfl (by decide) (by decide) (.inl (by decide)) (fun cdv B outer s H E hgd hr => by
    have tk : Takes (cxOf (L2.CX P w) P w K mg base ["call", "error", "e", "kinds"] "_law_caught" (defScope s__law_caught) A.a__law_caught cdv B outer s H E) (fun c d _ H => E c d H) := takes_of rfl rfl rfl rfl
    have hW : WFree (fun c d _ H => E c d H) := wfree_of
    have ps : PassesOwn (model P w) (cxOf (L2.CX P w) P w K mg base ["call", "error", "e", "kinds"] "_law_caught" (defScope s__law_caught) A.a__law_caught cdv B outer s H E).A (cxOf (L2.CX P w) P w K mg base ["call", "error", "e", "kinds"] "_law_caught" (defScope s__law_caught) A.a__law_caught cdv B outer s H E).env (cxOf (L2.CX P w) P w K mg base ["call", "error", "e", "kinds"] "_law_caught" (defScope s__law_caught) A.a__law_caught cdv B outer s H E).xe := passes_of rfl
    have LO := lo_all (base := base) (Tt := Tt) T
    exact (ss_cons (sSet (κ := 0) 1 sc__law_caught.nd hW ei_non)
      (ss_cons (si_try (κ := 0) (i := 2) (j := 1) rfl rfl rfl sc__law_caught.nd rfl rfl rfl rfl ⟨rfl, by decide, Or.inl T.k_BoxError⟩ takes0 (te_all T) (by decide) (by decide) (by decide) rfl rfl (by decide) (by intro l h; rcases h with rfl | rfl <;> rfl) (fun W pn xe tk => (ei_act (k := kLam) (i := 0) LO rfl (visS (by first | exact Or.inl rfl | exact Or.inr (Or.inl rfl) | exact Or.inr (Or.inr rfl))) hgd (hr.mono (by decide)) tk)))
      (ss_cons (sSet (κ := 0) 3 sc__law_caught.nd hW (ei_low (κ := 1) (κ' := 0) (ei_lst (κ := 0) (ai_cons (κ := 0) (ei_isX (is_InvalidShape T) T.nk_InvalidShape (by rfl) T.b_isinstance bt_isinstance (by rfl) T.k_InvalidShape (oe (xV 1))) (ai_cons (κ := 0) (ei_isX (is_InvalidBox T) T.nk_InvalidBox (by rfl) T.b_isinstance bt_isinstance (by rfl) T.k_InvalidBox (oe (xV 1))) (ai_cons (κ := 0) (ei_isX (is_InvalidBoard T) T.nk_InvalidBoard (by rfl) T.b_isinstance bt_isinstance (by rfl) T.k_InvalidBoard (oe (xV 1))) (ai_cons (κ := 0) (ei_isX (is_InvalidWord T) T.nk_InvalidWord (by rfl) T.b_isinstance bt_isinstance (by rfl) T.k_InvalidWord (oe (xV 1))) (ai_cons (κ := 0) (ei_isX (is_InvalidOrder T) T.nk_InvalidOrder (by rfl) T.b_isinstance bt_isinstance (by rfl) T.k_InvalidOrder (oe (xV 1))) ai_nil))))))))
      (ss_cons (sSet (κ := 0) 3 sc__law_caught.nd hW (ei_low (κ := 1) (κ' := 0) (ei_cat (oi_v (xV 3)) (oi_v (ei_low (κ := 1) (κ' := 0) (ei_lst (κ := 0) (ai_cons (κ := 0) (ei_isX (is_InvalidNumber T) T.nk_InvalidNumber (by rfl) T.b_isinstance bt_isinstance (by rfl) T.k_InvalidNumber (oe (xV 1))) (ai_cons (κ := 0) (ei_isX (is_InvalidList T) T.nk_InvalidList (by rfl) T.b_isinstance bt_isinstance (by rfl) T.k_InvalidList (oe (xV 1))) (ai_cons (κ := 0) (ei_isX (is_Unlike T) T.nk_Unlike (by rfl) T.b_isinstance bt_isinstance (by rfl) T.k_Unlike (oe (xV 1))) (ai_cons (κ := 0) (ei_isX (is_TooMany T) T.nk_TooMany (by rfl) T.b_isinstance bt_isinstance (by rfl) T.k_TooMany (oe (xV 1))) ai_nil))))))))))
      (ss_one (si_ret (ei_low (κ := 1) (κ' := 0) (ei_lst (κ := 0) (ai_cons (κ := 0) (xV 3) (ai_cons (κ := 0) (ei_if (ti_cmp op_isN lk_isN rfl (oe (xV 1)) (oe ei_non)) ei_non (ei_val (xf_all T) (xV 1))) ai_nil)))))))))))
theorem ok__law_all_caught {Tt : List (Addr × Str)} (T : Txt P w K mg A) : FnG P w K mg base (L2.CX P w) 11 A.a__law_all_caught A.d__law_all_caught ["calls", "at", "value"] (spI (GG K A (ClT.of Tt LT base)) sg__law_all_caught F__law_all_caught) :=
  fn_im (Γ' := [0, 0, 0, 0, 0]) T.F__law_all_caught sc__law_all_caught rfl (by decide) (by decide) (.inl (by decide)) (fun cdv B outer s H E hgd hr => by
    have tk : Takes (cxOf (L2.CX P w) P w K mg base ["calls", "at", "value", "call", "place"] "_law_all_caught" (defScope s__law_all_caught) A.a__law_all_caught cdv B outer s H E) (fun c d _ H => E c d H) := takes_of rfl rfl rfl rfl
    have hW : WFree (fun c d _ H => E c d H) := wfree_of
    have ps : PassesOwn (model P w) (cxOf (L2.CX P w) P w K mg base ["calls", "at", "value", "call", "place"] "_law_all_caught" (defScope s__law_all_caught) A.a__law_all_caught cdv B outer s H E).A (cxOf (L2.CX P w) P w K mg base ["calls", "at", "value", "call", "place"] "_law_all_caught" (defScope s__law_all_caught) A.a__law_all_caught cdv B outer s H E).env (cxOf (L2.CX P w) P w K mg base ["calls", "at", "value", "call", "place"] "_law_all_caught" (defScope s__law_all_caught) A.a__law_all_caught cdv B outer s H E).xe := passes_of rfl
    have LO := lo_all (base := base) (Tt := Tt) T
    exact (ss_one (si_ret (ei_cmp (op_eqD (hu64 hr)) (lk_eq rfl) rfl (oe (ei_low (κ := 1) (κ' := 0) (ei_lc (own := [("call", 3)]) rfl sc__law_all_caught.nd (ii_any rfl (oi_v (xV 0))) (blkOk_by (show blkC ["calls", "at", "value", "call", "place"] (defScope s__law_all_caught) _ [("call", 3)] = true by decide +kernel)) (fun _ _ _ _ _ => (tgN 3 sc__law_all_caught.nd)) (fun _ _ _ _ _ => by have tk := @takesN; exact (tt_one (ti_not (ti_val (κ := 0) (ei_call (sg := sg__law_exact) (ok__law_exact T) hgd (hr.mono (by decide)) (by rfl) T.g__law_exact T.F__law_exact.kp (kb_law_exact_2 T) tk (ci_cons (c1_e (κ := 0) (ei_call (sg := sg__law_caught) (ok__law_caught T) hgd (hr.mono (by decide)) (by rfl) T.g__law_caught T.F__law_caught.kp (kb_law_caught_1 T) tk (ci_cons (c1_e (κ := 0) (xV 3)) ci_nil) cm_n)) (ci_cons (c1_e (κ := 0) (ei_low (κ := 1) (κ' := 0) (ei_lst (κ := 0) (ai_cons (κ := 0) (ei_low (κ := 1) (κ' := 0) (ei_lc (own := [("place", 4)]) rfl sc__law_all_caught.nd (ii_rng1 (by rfl) T.b_range (oe ei_int)) (blkOk_by (show blkC ["calls", "at", "value", "call", "place"] _ _ [("place", 4)] = true by rfl)) (fun _ _ _ _ _ => (tgN 4 sc__law_all_caught.nd)) (fun _ _ _ _ _ => tt_nil) (fun _ _ _ _ _ => (ei_cmp (op_eqD (hu64 hr)) (lk_eq rfl) rfl (oe (xS 4)) (oe (xV 1)))))) (ai_cons (κ := 0) (xV 2) ai_nil))))) ci_nil)) cm_n))))) (fun _ _ _ _ _ => (xV 3))))) (oe (ei_low (κ := 1) (κ' := 0) (ei_lst (κ := 0) ai_nil)))))))
theorem ok__law_bad_words (T : Txt P w K mg A) : FnG P w K mg base (L2.CX P w) 3 A.a__law_bad_words A.d__law_bad_words [] (spI (GG K A cl) sg__law_bad_words F__law_bad_words) :=
  fn_im (Γ' := []) T.F__law_bad_words sc__law_bad_words rfl (by decide) (by decide) (.inl (by decide)) (fun cdv B outer s H E hgd hr => by
    have tk : Takes (cxOf (L2.CX P w) P w K mg base [] "_law_bad_words" (defScope s__law_bad_words) A.a__law_bad_words cdv B outer s H E) (fun c d _ H => E c d H) := takes_of rfl rfl rfl rfl
    have hW : WFree (fun c d _ H => E c d H) := wfree_of
    have ps : PassesOwn (model P w) (cxOf (L2.CX P w) P w K mg base [] "_law_bad_words" (defScope s__law_bad_words) A.a__law_bad_words cdv B outer s H E).A (cxOf (L2.CX P w) P w K mg base [] "_law_bad_words" (defScope s__law_bad_words) A.a__law_bad_words cdv B outer s H E).env (cxOf (L2.CX P w) P w K mg base [] "_law_bad_words" (defScope s__law_bad_words) A.a__law_bad_words cdv B outer s H E).xe := passes_of rfl
    exact (ss_one (si_ret (ei_lst (κ := 0) (ai_cons (κ := 0) ei_non (ai_cons (κ := 0) (ei_tup (κ := 0) ai_nil) (ai_cons (κ := 0) (ei_low (κ := 1) (κ' := 0) ei_edict) (ai_cons (κ := 0) (ei_tup (κ := 0) (ai_cons (κ := 0) ei_int (ai_cons (κ := 0) ei_int ai_nil))) (ai_cons (κ := 0) (ei_low (κ := 1) (κ' := 0) (ei_lst (κ := 0) (ai_cons (κ := 0) ei_int ai_nil))) (ai_cons (κ := 0) (ei_low (κ := 1) (κ' := 0) (ei_lst (κ := 0) (ai_cons (κ := 0) ei_int ai_nil))) (ai_cons (κ := 0) (ei_low (κ := 1) (κ' := 0) (ei_lst (κ := 0) (ai_cons (κ := 0) ei_bl ai_nil))) (ai_cons (κ := 0) (ei_low (κ := 1) (κ' := 0) (ei_lst (κ := 0) (ai_cons (κ := 0) ei_str ai_nil))) (ai_cons (κ := 0) (ei_low (κ := 1) (κ' := 0) (ei_lst (κ := 0) (ai_cons (κ := 0) ei_non ai_nil))) (ai_cons (κ := 0) (ei_low (κ := 1) (κ' := 0) (ei_rep (oi_v (ei_low (κ := 1) (κ' := 0) (ei_lst (κ := 0) (ai_cons (κ := 0) ei_int ai_nil)))) (oe ei_int))) (ai_cons (κ := 0) ei_str (ai_cons (κ := 0) (ei_low (κ := 1) (κ' := 0) (ei_lst (κ := 0) (ai_cons (κ := 0) ei_int (ai_cons (κ := 0) (ei_bin op_sub lk_sub (oe ei_int) (oe ei_int)) ai_nil)))) (ai_cons (κ := 0) (ei_low (κ := 1) (κ' := 0) (ei_lst (κ := 0) (ai_cons (κ := 0) (ei_low (κ := 1) (κ' := 0) (ei_lst (κ := 0) (ai_cons (κ := 0) ei_int ai_nil))) ai_nil))) (ai_cons (κ := 0) ei_int ai_nil))))))))))))))))))
theorem ok__law_drawn (T : Txt P w K mg A) : FnG P w K mg base (L2.CX P w) 6 A.a__law_drawn A.d__law_drawn ["generator", "most"] (spI (GG K A cl) sg__law_drawn F__law_drawn) :=
  fn_im (Γ' := [1, 0]) T.F__law_drawn sc__law_drawn rfl (by decide) (by decide) (.inl (by decide)) (fun cdv B outer s H E hgd hr => by
    have tk : Takes (cxOf (L2.CX P w) P w K mg base ["generator", "most"] "_law_drawn" (defScope s__law_drawn) A.a__law_drawn cdv B outer s H E) (fun c d _ H => E c d H) := takes_of rfl rfl rfl rfl
    have hW : WFree (fun c d _ H => E c d H) := wfree_of
    have ps : PassesOwn (model P w) (cxOf (L2.CX P w) P w K mg base ["generator", "most"] "_law_drawn" (defScope s__law_drawn) A.a__law_drawn cdv B outer s H E).A (cxOf (L2.CX P w) P w K mg base ["generator", "most"] "_law_drawn" (defScope s__law_drawn) A.a__law_drawn cdv B outer s H E).env (cxOf (L2.CX P w) P w K mg base ["generator", "most"] "_law_drawn" (defScope s__law_drawn) A.a__law_drawn cdv B outer s H E).xe := passes_of rfl
    exact (ss_one (si_ret (ei_call (sg := sg__law_order) (ok__law_order T) hgd (hr.mono (by decide)) (by rfl) T.g__law_order T.F__law_order.kp (kb_law_order_2 T) tk (ci_late (i := 0) (κ := 1) rfl (visS (by first | exact Or.inl rfl | exact Or.inr (Or.inl rfl) | exact Or.inr (Or.inr rfl))) rfl (ci_cons (c1_e (κ := 0) (ei_low (κ := 1) (κ' := 0) (ei_listRg2 rfl (by rfl) T.b_list (by rfl) T.b_range (oe ei_int) (oe (ei_bin op_addX lk_addX (oe ei_int) (oe (ei_call (sg := sg__law_random) (ok__law_random T) hgd (hr.mono (by decide)) (by rfl) T.g__law_random T.F__law_random.kp (kb_law_random_2 T) tk (ci_cons (xR (κ := 1) 0) (ci_cons (c1_e (κ := 0) (ei_bin op_addX lk_addX (oe (xV 1)) (oe ei_int))) ci_nil)) (cm_r (Γ' := [1, 0]) 0 0 0 1)))))))) ci_nil)) (cm_r (Γ' := [1, 0]) 0 0 0 1)))))
theorem ok__law_product (T : Txt P w K mg A) : FnG P w K mg base (L2.CX P w) 3 A.a__law_product A.d__law_product ["numbers"] (spI (GG K A cl) sg__law_product F__law_product) :=
  fn_im (Γ' := [0, 0, 0]) T.F__law_product sc__law_product rfl (by decide) (by decide) (.inl (by decide)) (fun cdv B outer s H E hgd hr => by
    have tk : Takes (cxOf (L2.CX P w) P w K mg base ["numbers", "found", "number"] "_law_product" (defScope s__law_product) A.a__law_product cdv B outer s H E) (fun c d _ H => E c d H) := takes_of rfl rfl rfl rfl
    have hW : WFree (fun c d _ H => E c d H) := wfree_of
    have ps : PassesOwn (model P w) (cxOf (L2.CX P w) P w K mg base ["numbers", "found", "number"] "_law_product" (defScope s__law_product) A.a__law_product cdv B outer s H E).A (cxOf (L2.CX P w) P w K mg base ["numbers", "found", "number"] "_law_product" (defScope s__law_product) A.a__law_product cdv B outer s H E).env (cxOf (L2.CX P w) P w K mg base ["numbers", "found", "number"] "_law_product" (defScope s__law_product) A.a__law_product cdv B outer s H E).xe := passes_of rfl
    exact (ss_cons (sSet (κ := 0) 1 sc__law_product.nd hW ei_int)
      (ss_cons (si_for ps rfl hW (ii_any rfl (oi_v (xV 0))) (tgN 2 sc__law_product.nd) (ss_one (sSet (κ := 0) 1 sc__law_product.nd hW (ei_bin op_mulX lk_mulX (oe (xS 1)) (oe (xV 2))))))
      (ss_one (si_ret (xS 1))))))
theorem ok__law_factorial (T : Txt P w K mg A) : FnG P w K mg base (L2.CX P w) 4 A.a__law_factorial A.d__law_factorial ["many"] (spI (GG K A cl) sg__law_factorial F__law_factorial) :=
  fn_im (Γ' := [0]) T.F__law_factorial sc__law_factorial rfl (by decide) (by decide) (.inl (by decide)) (fun cdv B outer s H E hgd hr => by
    have tk : Takes (cxOf (L2.CX P w) P w K mg base ["many"] "_law_factorial" (defScope s__law_factorial) A.a__law_factorial cdv B outer s H E) (fun c d _ H => E c d H) := takes_of rfl rfl rfl rfl
    have hW : WFree (fun c d _ H => E c d H) := wfree_of
    have ps : PassesOwn (model P w) (cxOf (L2.CX P w) P w K mg base ["many"] "_law_factorial" (defScope s__law_factorial) A.a__law_factorial cdv B outer s H E).A (cxOf (L2.CX P w) P w K mg base ["many"] "_law_factorial" (defScope s__law_factorial) A.a__law_factorial cdv B outer s H E).env (cxOf (L2.CX P w) P w K mg base ["many"] "_law_factorial" (defScope s__law_factorial) A.a__law_factorial cdv B outer s H E).xe := passes_of rfl
    exact (ss_one (si_ret (ei_call (sg := sg__law_product) (ok__law_product T) hgd (hr.mono (by decide)) (by rfl) T.g__law_product T.F__law_product.kp (kb_law_product_1 T) tk (ci_cons (c1_e (κ := 0) (ei_low (κ := 1) (κ' := 0) (ei_listRg2 rfl (by rfl) T.b_list (by rfl) T.b_range (oe ei_int) (oe (ei_bin op_addX lk_addX (oe (xS 0)) (oe ei_int)))))) ci_nil) cm_n))))
theorem ok__law_code (T : Txt P w K mg A) : FnG P w K mg base (L2.CX P w) 3 A.a__law_code A.d__law_code ["order"] (spI (GG K A cl) sg__law_code F__law_code) :=
  fn_im (Γ' := [0, 0, 0, 0]) T.F__law_code sc__law_code rfl (by decide) (by decide) (.inl (by decide)) (fun cdv B outer s H E hgd hr => by
    have tk : Takes (cxOf (L2.CX P w) P w K mg base ["order", "at", "number", "late"] "_law_code" (defScope s__law_code) A.a__law_code cdv B outer s H E) (fun c d _ H => E c d H) := takes_of rfl rfl rfl rfl
    have hW : WFree (fun c d _ H => E c d H) := wfree_of
    have ps : PassesOwn (model P w) (cxOf (L2.CX P w) P w K mg base ["order", "at", "number", "late"] "_law_code" (defScope s__law_code) A.a__law_code cdv B outer s H E).A (cxOf (L2.CX P w) P w K mg base ["order", "at", "number", "late"] "_law_code" (defScope s__law_code) A.a__law_code cdv B outer s H E).env (cxOf (L2.CX P w) P w K mg base ["order", "at", "number", "late"] "_law_code" (defScope s__law_code) A.a__law_code cdv B outer s H E).xe := passes_of rfl
    exact (ss_one (si_ret (ei_lc (own := [("at", 1), ("number", 2)]) rfl sc__law_code.nd (ii_enum (by rfl) T.b_enumerate (oi_v (xV 0))) (blkOk_by (show blkC ["order", "at", "number", "late"] (defScope s__law_code) _ [("at", 1), ("number", 2)] = true by decide +kernel)) (fun _ _ _ _ _ => (tg_tup rfl (tgs_cons (tgN 1 sc__law_code.nd) (tgs_cons (tgN 2 sc__law_code.nd) tgs_nil)))) (fun _ _ _ _ _ => tt_nil) (fun _ _ _ _ _ => (ei_b1 call_len (lk_len rfl) (by rfl) T.b_len bt_len (oe (ei_low (κ := 1) (κ' := 0) (ei_lc (own := [("late", 3)]) rfl sc__law_code.nd (ii_any rfl (oi_v (ei_low (κ := 1) (κ' := 0) (ei_slice rfl (oi_v (xV 0)) (pi_s (oe (ei_bin op_addX lk_addX (oe (xS 1)) (oe ei_int)))) pi_n)))) (blkOk_by (show blkC ["order", "at", "number", "late"] _ _ [("late", 3)] = true by rfl)) (fun _ _ _ _ _ => (tgN 3 sc__law_code.nd)) (fun _ _ _ _ _ => (tt_one (ti_cmp op_lt lk_lt rfl (oe (xV 3)) (oe (xV 2))))) (fun _ _ _ _ _ => (xV 3)))))))))))
theorem ok__law_bad_orders (T : Txt P w K mg A) : FnG P w K mg base (L2.CX P w) 4 A.a__law_bad_orders A.d__law_bad_orders [] (spI (GG K A cl) sg__law_bad_orders F__law_bad_orders) :=
  fn_im (Γ' := []) T.F__law_bad_orders sc__law_bad_orders rfl (by decide) (by decide) (.inl (by decide)) (fun cdv B outer s H E hgd hr => by
    have tk : Takes (cxOf (L2.CX P w) P w K mg base [] "_law_bad_orders" (defScope s__law_bad_orders) A.a__law_bad_orders cdv B outer s H E) (fun c d _ H => E c d H) := takes_of rfl rfl rfl rfl
    have hW : WFree (fun c d _ H => E c d H) := wfree_of
    have ps : PassesOwn (model P w) (cxOf (L2.CX P w) P w K mg base [] "_law_bad_orders" (defScope s__law_bad_orders) A.a__law_bad_orders cdv B outer s H E).A (cxOf (L2.CX P w) P w K mg base [] "_law_bad_orders" (defScope s__law_bad_orders) A.a__law_bad_orders cdv B outer s H E).env (cxOf (L2.CX P w) P w K mg base [] "_law_bad_orders" (defScope s__law_bad_orders) A.a__law_bad_orders cdv B outer s H E).xe := passes_of rfl
    exact (ss_one (si_ret (ei_cat (oi_v (ei_low (κ := 1) (κ' := 0) (ei_call0 (sg := sg__law_bad_words) (ok__law_bad_words T) hgd (hr.mono (by decide)) (by rfl) T.g__law_bad_words T.F__law_bad_words.kp (kb_law_bad_words_0 T) tk cm_n))) (oi_v (ei_low (κ := 1) (κ' := 0) (ei_lst (κ := 0) (ai_cons (κ := 0) (ei_low (κ := 1) (κ' := 0) (ei_lst (κ := 0) (ai_cons (κ := 0) ei_int ai_nil))) (ai_cons (κ := 0) (ei_low (κ := 1) (κ' := 0) (ei_lst (κ := 0) (ai_cons (κ := 0) ei_int (ai_cons (κ := 0) ei_int ai_nil)))) (ai_cons (κ := 0) (ei_low (κ := 1) (κ' := 0) (ei_lst (κ := 0) (ai_cons (κ := 0) ei_int (ai_cons (κ := 0) ei_int ai_nil)))) (ai_cons (κ := 0) (ei_low (κ := 1) (κ' := 0) (ei_lst (κ := 0) (ai_cons (κ := 0) ei_int (ai_cons (κ := 0) ei_int (ai_cons (κ := 0) ei_int ai_nil))))) (ai_cons (κ := 0) (ei_low (κ := 1) (κ' := 0) (ei_lst (κ := 0) (ai_cons (κ := 0) ei_int (ai_cons (κ := 0) ei_int (ai_cons (κ := 0) ei_int ai_nil))))) ai_nil))))))))))))
theorem ok__law_position (T : Txt P w K mg A) : FnG P w K mg base (L2.CX P w) 5 A.a__law_position A.d__law_position ["order"] (spI (GG K A cl) sg__law_position F__law_position) :=
  fn_im (Γ' := [0, 0, 0, 0]) T.F__law_position sc__law_position rfl (by decide) (by decide) (.inl (by decide)) (fun cdv B outer s H E hgd hr => by
    have tk : Takes (cxOf (L2.CX P w) P w K mg base ["order", "found", "at", "one"] "_law_position" (defScope s__law_position) A.a__law_position cdv B outer s H E) (fun c d _ H => E c d H) := takes_of rfl rfl rfl rfl
    have hW : WFree (fun c d _ H => E c d H) := wfree_of
    have ps : PassesOwn (model P w) (cxOf (L2.CX P w) P w K mg base ["order", "found", "at", "one"] "_law_position" (defScope s__law_position) A.a__law_position cdv B outer s H E).A (cxOf (L2.CX P w) P w K mg base ["order", "found", "at", "one"] "_law_position" (defScope s__law_position) A.a__law_position cdv B outer s H E).env (cxOf (L2.CX P w) P w K mg base ["order", "found", "at", "one"] "_law_position" (defScope s__law_position) A.a__law_position cdv B outer s H E).xe := passes_of rfl
    exact (ss_cons (sSet (κ := 0) 1 sc__law_position.nd hW ei_int)
      (ss_cons (si_for ps rfl hW (ii_enum (by rfl) T.b_enumerate (oi_v (ei_low (κ := 1) (κ' := 0) (ei_call (sg := sg__law_code) (ok__law_code T) hgd (hr.mono (by decide)) (by rfl) T.g__law_code T.F__law_code.kp (kb_law_code_1 T) tk (ci_cons (c1_e (κ := 0) (xV 0)) ci_nil) cm_n)))) (tg_tup rfl (tgs_cons (tgN 2 sc__law_position.nd) (tgs_cons (tgN 3 sc__law_position.nd) tgs_nil))) (ss_one (sSet (κ := 0) 1 sc__law_position.nd hW (ei_bin op_addX lk_addX (oe (xS 1)) (oe (ei_bin op_mulX lk_mulX (oe (xV 3)) (oe (ei_call (sg := sg__law_factorial) (ok__law_factorial T) hgd (hr.mono (by decide)) (by rfl) T.g__law_factorial T.F__law_factorial.kp (kb_law_factorial_1 T) tk (ci_cons (c1_e (κ := 0) (ei_bin op_sub lk_sub (oe (ei_bin op_sub lk_sub (oe (ei_b1 call_len (lk_len rfl) (by rfl) T.b_len bt_len (oe (xV 0)))) (oe (xS 2)))) (oe ei_int))) ci_nil) cm_n))))))))
      (ss_one (si_ret (xS 1))))))
theorem ok__law_all (T : Txt P w K mg A) : FnG P w K mg base (L2.CX P w) 3 A.a__law_all A.d__law_all ["size"] (spI (GG K A cl) sg__law_all F__law_all) :=
  fn_im (Γ' := [0, 0, 0, 0, 0]) T.F__law_all sc__law_all rfl (by decide) (by decide) (.inl (by decide)) (fun cdv B outer s H E hgd hr => by
    have tk : Takes (cxOf (L2.CX P w) P w K mg base ["size", "found", "turn", "order", "one"] "_law_all" (defScope s__law_all) A.a__law_all cdv B outer s H E) (fun c d _ H => E c d H) := takes_of rfl rfl rfl rfl
    have hW : WFree (fun c d _ H => E c d H) := wfree_of
    have ps : PassesOwn (model P w) (cxOf (L2.CX P w) P w K mg base ["size", "found", "turn", "order", "one"] "_law_all" (defScope s__law_all) A.a__law_all cdv B outer s H E).A (cxOf (L2.CX P w) P w K mg base ["size", "found", "turn", "order", "one"] "_law_all" (defScope s__law_all) A.a__law_all cdv B outer s H E).env (cxOf (L2.CX P w) P w K mg base ["size", "found", "turn", "order", "one"] "_law_all" (defScope s__law_all) A.a__law_all cdv B outer s H E).xe := passes_of rfl
    exact (ss_cons (sSet (κ := 0) 1 sc__law_all.nd hW (ei_low (κ := 1) (κ' := 0) (ei_lst (κ := 0) (ai_cons (κ := 0) (ei_low (κ := 1) (κ' := 0) (ei_lst (κ := 0) ai_nil)) ai_nil))))
      (ss_cons (si_for ps rfl hW (ii_rng1 (by rfl) T.b_range (oe (xV 0))) (tgN 2 sc__law_all.nd) (ss_one (sSet (κ := 0) 1 sc__law_all.nd hW (ei_low (κ := 1) (κ' := 0) (ei_sumL rfl (by rfl) T.b_sum bt_sum (oi_v (ei_low (κ := 1) (κ' := 0) (ei_lc (own := [("order", 3)]) rfl sc__law_all.nd (ii_any rfl (oi_v (xV 1))) (blkOk_by (show blkC ["size", "found", "turn", "order", "one"] (defScope s__law_all) _ [("order", 3)] = true by decide +kernel)) (fun _ _ _ _ _ => (tgN 3 sc__law_all.nd)) (fun _ _ _ _ _ => tt_nil) (fun _ _ _ _ _ => (ei_low (κ := 1) (κ' := 0) (ei_lc (own := [("one", 4)]) rfl sc__law_all.nd (ii_rng2 (by rfl) T.b_range (oe ei_int) (oe (ei_bin op_addX lk_addX (oe (xV 0)) (oe ei_int)))) (blkOk_by (show blkC ["size", "found", "turn", "order", "one"] _ _ [("one", 4)] = true by rfl)) (fun _ _ _ _ _ => (tgN 4 sc__law_all.nd)) (fun _ _ _ _ _ => (tt_one (ti_cmp (op_notInD (hu64 hr)) (lk_inD rfl) rfl (oe (xS 4)) (oe (xV 3))))) (fun _ _ _ _ _ => (ei_low (κ := 1) (κ' := 0) (ei_cat (oi_v (xV 3)) (oi_v (ei_low (κ := 1) (κ' := 0) (ei_lst (κ := 0) (ai_cons (κ := 0) (xS 4) ai_nil))))))))))))))))))
      (ss_one (si_ret (xV 1))))))
theorem ok__law_right (T : Txt P w K mg A) (hTB : ∀ p ∈ CS A, LamX.TabB base mg p.1 p.2) : FnG P w K mg base (L2.CX P w) 12 A.a__law_right A.d__law_right ["generator"] (spI (GG K A (ClT.tabs (TT A))) sg__law_right F__law_right) :=
  fn_imC (c := A.k__law_right) (Γ' := [1, 0, 0, 0, 2, 0, 0, 0]) T.F__law_right T.C__law_right sc__law_right rfl (by decide) (by decide) (.inl (by decide)) (fun B outer s H E hgd hr => by
    have tk : Takes (cxOf (L2.CX P w) P w K mg base ["generator", "order", "kept", "due", "told", "small", "bad", "number"] "_law_right" (defScope s__law_right) A.a__law_right (.ref A.k__law_right) B outer s H E) (fun c d _ H => E c d H) := takes_of rfl rfl rfl rfl
    have hW : WFree (fun c d _ H => E c d H) := wfree_of
    have ps : PassesOwn (model P w) (cxOf (L2.CX P w) P w K mg base ["generator", "order", "kept", "due", "told", "small", "bad", "number"] "_law_right" (defScope s__law_right) A.a__law_right (.ref A.k__law_right) B outer s H E).A (cxOf (L2.CX P w) P w K mg base ["generator", "order", "kept", "due", "told", "small", "bad", "number"] "_law_right" (defScope s__law_right) A.a__law_right (.ref A.k__law_right) B outer s H E).env (cxOf (L2.CX P w) P w K mg base ["generator", "order", "kept", "due", "told", "small", "bad", "number"] "_law_right" (defScope s__law_right) A.a__law_right (.ref A.k__law_right) B outer s H E).xe := passes_of rfl
    have MK : MkOk (cxOf (L2.CX P w) P w K mg base ["generator", "order", "kept", "due", "told", "small", "bad", "number"] "_law_right" (defScope s__law_right) A.a__law_right (.ref A.k__law_right) B outer s H E) (ClT.tabs (TT A)).T A.k__law_right A.p__law_right := ⟨hTB (A.k__law_right, A.p__law_right) (by simp [CS]), rfl, by exact List.mem_cons_self, fun p hp e => by
      simp only [ClT.tabs, TT, List.mem_cons, List.not_mem_nil, or_false] at hp
      rcases hp with rfl
      · rfl⟩
    exact (ss_cons (sSet (κ := 0) 1 sc__law_right.nd hW (ei_low (κ := 1) (κ' := 0) (ei_call (sg := sg__law_drawn) (ok__law_drawn T) hgd (hr.mono (by decide)) (by rfl) T.g__law_drawn T.F__law_drawn.kp (kb_law_drawn_2 T) tk (ci_cons (xR (κ := 1) 0) (ci_cons (c1_e (κ := 0) ei_int) ci_nil)) (cm_r (Γ' := [1, 0, 0, 0, 0, 0, 0, 0]) 0 0 0 1))))
      (ss_cons (si_par (i := 2) (j := 3) rfl hW sc__law_right.nd rfl rfl rfl rfl (ai_cons (κ := 0) (ei_b1 (call_repr hgd (hu64 hr)) (lk_repr rfl) (by rfl) T.b_repr bt_repr (oe (xV 1))) (ai_cons (κ := 0) (ei_call (sg := sg__law_position) (ok__law_position T) hgd (hr.mono (by decide)) (by rfl) T.g__law_position T.F__law_position.kp (kb_law_position_1 T) tk (ci_cons (c1_e (κ := 0) (xV 1)) ci_nil) cm_n) ai_nil)))
      (ss_cons (si_if (ti_not (ti_val (κ := 0) (ei_call (sg := sg__law_exact) (ok__law_exact T) hgd (hr.mono (by decide)) (by rfl) T.g__law_exact T.F__law_exact.kp (kb_law_exact_2 T) tk (ci_cons (c1_e (κ := 0) (ei_low (κ := 1) (κ' := 0) (ei_lst (κ := 0) (ai_cons (κ := 0) (ei_call (sg := sg_order_position) (ok_order_position T) hgd (hr.mono (by decide)) (by rfl) T.g_order_position T.F_order_position.kp (kb_order_position_1 T) tk (ci_cons (c1_e (κ := 0) (xV 1)) ci_nil) cm_n) (ai_cons (κ := 0) (ei_callK0 (sg := sg_order_position) (ok_order_position T) hgd (hr.mono (by decide)) (by rfl) T.g_order_position T.F_order_position.kp (kb_order_position_0_order T) tk (ki_cons (c1_e (κ := 0) (xV 1)) ki_nil) cm_n) ai_nil))))) (ci_cons (c1_e (κ := 0) (ei_low (κ := 1) (κ' := 0) (ei_lst (κ := 0) (ai_cons (κ := 0) (xV 3) (ai_cons (κ := 0) (xV 3) ai_nil))))) ci_nil)) cm_n))) (ss_one (si_ret ei_bl)) ss_nil)
      (ss_cons (sSet (κ := 2) (Γ1 := [1, 0, 0, 0, 0, 0, 0, 0]) 4 sc__law_right.nd hW (ei_lst (κ := 1) (ai_cons (κ := 1) (ei_call (sg := sg_order_at) (ok_order_at T) hgd (hr.mono (by decide)) (by rfl) T.g_order_at T.F_order_at.kp (kb_order_at_2 T) tk (ci_cons (c1_e (κ := 0) (ei_b1 call_len (lk_len rfl) (by rfl) T.b_len bt_len (oe (xV 1)))) (ci_cons (c1_e (κ := 0) (xV 3)) ci_nil)) cm_n) (ai_cons (κ := 1) (ei_callK0 (sg := sg_order_at) (ok_order_at T) hgd (hr.mono (by decide)) (by rfl) T.g_order_at T.F_order_at.kp (kb_order_at_0_number_size T) tk (ki_cons (c1_e (κ := 0) (xV 3)) (ki_cons (c1_e (κ := 0) (ei_b1 call_len (lk_len rfl) (by rfl) T.b_len bt_len (oe (xV 1)))) ki_nil)) cm_n) ai_nil))))
      (ss_cons (si_if (ti_of_wi (wi_or (ti_not (ti_val (κ := 0) (ei_call (sg := sg__law_exact) (ok__law_exact T) hgd (hr.mono (by decide)) (by rfl) T.g__law_exact T.F__law_exact.kp (kb_law_exact_2 T) tk (ci_cons (c1_e (κ := 0) (xL 4)) (ci_cons (c1_e (κ := 0) (ei_low (κ := 1) (κ' := 0) (ei_lst (κ := 0) (ai_cons (κ := 0) (xV 1) (ai_cons (κ := 0) (xV 1) ai_nil))))) ci_nil)) cm_n))) (wi_or (ti_not (ti_val (κ := 0) (ei_call (sg := sg__law_marked) (ok__law_marked T) hgd (hr.mono (by decide)) (by rfl) T.g__law_marked T.F__law_marked.kp (kb_law_marked_1 T) tk (ci_cons (xR (κ := 2) 4) ci_nil) (cm_r (Γ' := [1, 0, 0, 0, 2, 0, 0, 0]) 4 0 0 2)))) (wi_or1 (ti_cmp (op_neD (hu64 hr)) (lk_ne rfl) rfl (oe (ei_b1 (call_repr hgd (hu64 hr)) (lk_repr rfl) (by rfl) T.b_repr bt_repr (oe (xV 1)))) (oe (xS 2))))))) (ss_one (si_ret ei_bl)) ss_nil)
      (ss_cons (sSet (κ := 0) 5 sc__law_right.nd hW (ei_call (sg := sg__law_random) (ok__law_random T) hgd (hr.mono (by decide)) (by rfl) T.g__law_random T.F__law_random.kp (kb_law_random_2 T) tk (ci_cons (xR (κ := 1) 0) (ci_cons (c1_e (κ := 0) ei_int) ci_nil)) (cm_r (Γ' := [1, 0, 0, 0, 2, 0, 0, 0]) 0 0 0 1)))
      (ss_cons (si_if (ti_cmp (op_neD (hu64 hr)) (lk_ne rfl) rfl (oe (ei_low (κ := 1) (κ' := 0) (ei_lc (own := [("number", 7)]) rfl sc__law_right.nd (ii_rng1 (by rfl) T.b_range (oe (ei_call (sg := sg__law_factorial) (ok__law_factorial T) hgd (hr.mono (by decide)) (by rfl) T.g__law_factorial T.F__law_factorial.kp (kb_law_factorial_1 T) tk (ci_cons (c1_e (κ := 0) (xS 5)) ci_nil) cm_n))) (blkOk_by (show blkC ["generator", "order", "kept", "due", "told", "small", "bad", "number"] (defScope s__law_right) _ [("number", 7)] = true by decide +kernel)) (fun _ _ _ _ _ => (tgN 7 sc__law_right.nd)) (fun _ _ _ _ _ => tt_nil) (fun _ _ _ _ _ => by have tk := @takesN; exact (ei_low (κ := 1) (κ' := 0) (ei_call (sg := sg_order_at) (ok_order_at T) hgd (hr.mono (by decide)) (by rfl) T.g_order_at T.F_order_at.kp (kb_order_at_2 T) tk (ci_cons (c1_e (κ := 0) (xS 5)) (ci_cons (c1_e (κ := 0) (xS 7)) ci_nil)) cm_n)))))) (oe (ei_call (sg := sg__law_all) (ok__law_all T) hgd (hr.mono (by decide)) (by rfl) T.g__law_all T.F__law_all.kp (kb_law_all_1 T) tk (ci_cons (c1_e (κ := 0) (xS 5)) ci_nil) cm_n))) (ss_one (si_ret ei_bl)) ss_nil)
      (ss_cons (si_for ps rfl hW (ii_any rfl (oi_v (ei_low (κ := 1) (κ' := 0) (ei_lst (κ := 0) (ai_cons (κ := 0) ei_non (ai_cons (κ := 0) (ei_bin op_sub lk_sub (oe ei_int) (oe ei_int)) (ai_cons (κ := 0) ei_int (ai_cons (κ := 0) ei_bl (ai_cons (κ := 0) ei_str (ai_cons (κ := 0) (ei_low (κ := 1) (κ' := 0) (ei_lst (κ := 0) (ai_cons (κ := 0) ei_int ai_nil))) (ai_cons (κ := 0) (ei_tup (κ := 0) (ai_cons (κ := 0) ei_int (ai_cons (κ := 0) ei_int ai_nil))) ai_nil))))))))))) (tgN 6 sc__law_right.nd) (ss_one (si_if (ti_not (ti_val (κ := 0) (ei_callC (sg := sg__law_all_caught) (LT := LT) (ls := [lam_0]) (ns := [(0, [6])]) (fun _ => ok__law_all_caught T) hgd (hr.mono (by decide)) (by rfl) T.g__law_all_caught T.F__law_all_caught.kp (kb_law_all_caught_3 T) hpm3 tk (MK.re rfl rfl rfl rfl) ⟨⟨rfl, capOk_by (by rfl), rfl⟩, trivial⟩ (ci_cons (c1_e (κ := 0) ei_int) (ci_cons (c1_e (κ := 0) (xV 6)) ci_nil)) (by decide) rfl rfl rfl (by decide)))) (ss_one (si_ret ei_bl)) ss_nil)))
      (ss_cons (si_for ps rfl hW (ii_any rfl (oi_v (ei_low (κ := 1) (κ' := 0) (ei_lst (κ := 0) (ai_cons (κ := 0) ei_non (ai_cons (κ := 0) (ei_bin op_sub lk_sub (oe ei_int) (oe ei_int)) (ai_cons (κ := 0) (ei_call (sg := sg__law_factorial) (ok__law_factorial T) hgd (hr.mono (by decide)) (by rfl) T.g__law_factorial T.F__law_factorial.kp (kb_law_factorial_1 T) tk (ci_cons (c1_e (κ := 0) (ei_b1 call_len (lk_len rfl) (by rfl) T.b_len bt_len (oe (xV 1)))) ci_nil) cm_n) (ai_cons (κ := 0) ei_bl (ai_cons (κ := 0) ei_str (ai_cons (κ := 0) (ei_low (κ := 1) (κ' := 0) (ei_lst (κ := 0) (ai_cons (κ := 0) ei_int ai_nil))) ai_nil)))))))))) (tgN 6 sc__law_right.nd) (ss_one (si_if (ti_not (ti_val (κ := 0) (ei_callC (sg := sg__law_all_caught) (LT := LT) (ls := [lam_1]) (ns := [(1, [6, 1])]) (fun _ => ok__law_all_caught T) hgd (hr.mono (by decide)) (by rfl) T.g__law_all_caught T.F__law_all_caught.kp (kb_law_all_caught_3 T) hpm3 tk (MK.re rfl rfl rfl rfl) ⟨⟨rfl, capOk_by (by rfl), rfl⟩, trivial⟩ (ci_cons (c1_e (κ := 0) ei_int) (ci_cons (c1_e (κ := 0) (xV 6)) ci_nil)) (by decide) rfl rfl rfl (by decide)))) (ss_one (si_ret ei_bl)) ss_nil)))
      (ss_one (si_ret (ei_cmp (op_eqD (hu64 hr)) (lk_eq rfl) rfl (oe (ei_low (κ := 1) (κ' := 0) (ei_lc (own := [("bad", 6)]) rfl sc__law_right.nd (ii_any rfl (oi_v (ei_low (κ := 1) (κ' := 0) (ei_call0 (sg := sg__law_bad_orders) (ok__law_bad_orders T) hgd (hr.mono (by decide)) (by rfl) T.g__law_bad_orders T.F__law_bad_orders.kp (kb_law_bad_orders_0 T) tk cm_n)))) (blkOk_by (show blkC ["generator", "order", "kept", "due", "told", "small", "bad", "number"] (defScope s__law_right) _ [("bad", 6)] = true by decide +kernel)) (fun _ _ _ _ _ => (tgN 6 sc__law_right.nd)) (fun _ _ _ _ _ => by have tk := @takesN; exact (tt_one (ti_not (ti_val (κ := 0) (ei_callC (sg := sg__law_all_caught) (LT := LT) (ls := [lam_2]) (ns := [(2, [6])]) (fun _ => ok__law_all_caught T) hgd (hr.mono (by decide)) (by rfl) T.g__law_all_caught T.F__law_all_caught.kp (kb_law_all_caught_3 T) hpm3 tk (MK.re rfl rfl rfl rfl) ⟨⟨rfl, capOk_by (by rfl), rfl⟩, trivial⟩ (ci_cons (c1_e (κ := 0) ei_int) (ci_cons (c1_e (κ := 0) (xV 6)) ci_nil)) (by decide) rfl rfl rfl (by decide)))))) (fun _ _ _ _ _ => (xV 6))))) (oe (ei_low (κ := 1) (κ' := 0) (ei_lst (κ := 0) ai_nil))))))))))))))))
theorem ok_law (T : Txt P w K mg A) (hTB : ∀ p ∈ CS A, LamX.TabB base mg p.1 p.2) : FnG P w K mg base (L2.CX P w) 13 A.a_law A.d_law ["script"] (spI (GG K A (ClT.tabs (TT A))) sg_law F_law) :=
  fn_im (Γ' := [0, 0, 0]) T.F_law sc_law rfl (by decide) (by decide) (.inl (by decide)) (fun cdv B outer s H E hgd hr => by
    have tk : Takes (cxOf (L2.CX P w) P w K mg base ["script", "index", "generator"] "law" (defScope s_law) A.a_law cdv B outer s H E) (fun c d _ H => E c d H) := takes_of rfl rfl rfl rfl
    have hW : WFree (fun c d _ H => E c d H) := wfree_of
    have ps : PassesOwn (model P w) (cxOf (L2.CX P w) P w K mg base ["script", "index", "generator"] "law" (defScope s_law) A.a_law cdv B outer s H E).A (cxOf (L2.CX P w) P w K mg base ["script", "index", "generator"] "law" (defScope s_law) A.a_law cdv B outer s H E).env (cxOf (L2.CX P w) P w K mg base ["script", "index", "generator"] "law" (defScope s_law) A.a_law cdv B outer s H E).xe := passes_of rfl
    exact (ss_cons (si_for ps rfl hW (ii_rng1 (by rfl) T.b_range (oe ei_int)) (tgN 1 sc_law.nd) (ss_cons (sSet (κ := 1) (Γ1 := [0, 0, 0]) 2 sc_law.nd hW (ei_call (sg := sg__law_generator) (ok__law_generator T) hgd (hr.mono (by decide)) (by rfl) T.g__law_generator T.F__law_generator.kp (kb_law_generator_2 T) tk (ci_cons (c1_e (κ := 0) (xV 0)) (ci_cons (c1_e (κ := 0) (xS 1)) ci_nil)) cm_n))
      (ss_one (si_low (Γ2 := [0, 0, 0]) [(2, 0)] (si_if (ti_of_wi (wi_or (ti_not (ti_val (κ := 0) (ei_call (sg := sg__law_right) (ok__law_right T hTB) hgd (hr.mono (by decide)) (by rfl) T.g__law_right T.F__law_right.kp (kb_law_right_1 T) tk (ci_cons (xR (κ := 1) 2) ci_nil) (cm_r (Γ' := [0, 0, 1]) 2 0 0 1)))) (wi_or1 (ti_not (ti_val (κ := 0) (ei_call (sg := sg__law_right) (ok__law_right T hTB) hgd (hr.mono (by decide)) (by rfl) T.g__law_right T.F__law_right.kp (kb_law_right_1 T) tk (ci_cons (xR (κ := 1) 2) ci_nil) (cm_r (Γ' := [0, 0, 1]) 2 0 0 1))))))) (ss_one (si_ret ei_bl)) ss_nil)))))
      (ss_one (si_ret ei_bl))))
/-! ### the head -/
theorem head_mk {h : Heap} {fa : Addr} {f0 : Addr} {od0 an0 : Option Addr} {sl0 : Array (Option Value)} {oc0 kV0 dc0 pm0 cd0 ct0 : Value}
  {f1 : Addr} {od1 an1 : Option Addr} {sl1 : Array (Option Value)} {oc1 kV1 dc1 pm1 cd1 ct1 : Value}
  {f2 : Addr} {od2 an2 : Option Addr} {sl2 : Array (Option Value)} {oc2 kV2 dc2 pm2 cd2 ct2 : Value}
  {f3 : Addr} {od3 an3 : Option Addr} {sl3 : Array (Option Value)} {oc3 kV3 dc3 pm3 cd3 ct3 : Value}
  {f4 : Addr} {od4 an4 : Option Addr} {sl4 : Array (Option Value)} {oc4 kV4 dc4 pm4 cd4 ct4 : Value}
  {f5 : Addr} {od5 an5 : Option Addr} {sl5 : Array (Option Value)} {oc5 kV5 dc5 pm5 cd5 ct5 : Value}
  {f6 : Addr} {od6 an6 : Option Addr} {sl6 : Array (Option Value)} {oc6 kV6 dc6 pm6 cd6 ct6 : Value}
  {f7 : Addr} {od7 an7 : Option Addr} {sl7 : Array (Option Value)} {oc7 kV7 dc7 pm7 cd7 ct7 : Value}
  {f8 : Addr} {od8 an8 : Option Addr} {sl8 : Array (Option Value)} {oc8 kV8 dc8 pm8 cd8 ct8 : Value}
  {f9 : Addr} {od9 an9 : Option Addr} {sl9 : Array (Option Value)} {oc9 kV9 dc9 pm9 cd9 ct9 : Value}
  {f10 : Addr} {od10 an10 : Option Addr} {sl10 : Array (Option Value)} {oc10 kV10 dc10 pm10 cd10 ct10 : Value}
  {f11 : Addr} {od11 an11 : Option Addr} {sl11 : Array (Option Value)} {oc11 kV11 dc11 pm11 cd11 ct11 : Value}
  {f12 : Addr} {od12 an12 : Option Addr} {sl12 : Array (Option Value)} {oc12 kV12 dc12 pm12 cd12 ct12 : Value}
  {f13 : Addr} {od13 an13 : Option Addr} {sl13 : Array (Option Value)} {oc13 kV13 dc13 pm13 cd13 ct13 : Value}
  {f14 : Addr} {od14 an14 : Option Addr} {sl14 : Array (Option Value)} {oc14 kV14 dc14 pm14 cd14 ct14 : Value}
  {f15 : Addr} {od15 an15 : Option Addr} {sl15 : Array (Option Value)} {oc15 kV15 dc15 pm15 cd15 ct15 : Value}
  {f16 : Addr} {od16 an16 : Option Addr} {sl16 : Array (Option Value)} {oc16 kV16 dc16 pm16 cd16 ct16 : Value}
  {f17 : Addr} {od17 an17 : Option Addr} {sl17 : Array (Option Value)} {oc17 kV17 dc17 pm17 cd17 ct17 : Value}
  {f18 : Addr} {od18 an18 : Option Addr} {sl18 : Array (Option Value)} {oc18 kV18 dc18 pm18 cd18 ct18 : Value}
  {f19 : Addr} {od19 an19 : Option Addr} {sl19 : Array (Option Value)} {oc19 kV19 dc19 pm19 cd19 ct19 : Value}
  {f20 : Addr} {od20 an20 : Option Addr} {sl20 : Array (Option Value)} {oc20 kV20 dc20 pm20 cd20 ct20 : Value}
  {f21 : Addr} {od21 an21 : Option Addr} {sl21 : Array (Option Value)} {oc21 kV21 dc21 pm21 cd21 ct21 : Value}
  {f22 : Addr} {od22 an22 : Option Addr} {sl22 : Array (Option Value)} {oc22 kV22 dc22 pm22 cd22 ct22 : Value}
  {f23 : Addr} {od23 an23 : Option Addr} {sl23 : Array (Option Value)} {oc23 kV23 dc23 pm23 cd23 ct23 : Value}
  {f24 : Addr} {od24 an24 : Option Addr} {sl24 : Array (Option Value)} {oc24 kV24 dc24 pm24 cd24 ct24 : Value}
  {f25 : Addr} {od25 an25 : Option Addr} {sl25 : Array (Option Value)} {oc25 kV25 dc25 pm25 cd25 ct25 : Value}
  {f26 : Addr} {od26 an26 : Option Addr} {sl26 : Array (Option Value)} {oc26 kV26 dc26 pm26 cd26 ct26 : Value}
  {f27 : Addr} {od27 an27 : Option Addr} {sl27 : Array (Option Value)} {oc27 kV27 dc27 pm27 cd27 ct27 : Value}
  {f28 : Addr} {od28 an28 : Option Addr} {sl28 : Array (Option Value)} {oc28 kV28 dc28 pm28 cd28 ct28 : Value}
  {f29 : Addr} {od29 an29 : Option Addr} {sl29 : Array (Option Value)} {oc29 kV29 dc29 pm29 ct29 : Value}
  {f30 : Addr} {od30 an30 : Option Addr} {sl30 : Array (Option Value)} {oc30 kV30 dc30 pm30 cd30 ct30 : Value}
  {kk29 kp29 : Addr} {kv29 : Value} {ko29 : Option Addr} {ka29 : Array Value} {kx29 : Array (Option Value)}
  {t_MOST_LENGTH : Tok}
  {t_MOST_LETTER : Tok}
  {bD bI : Addr}
  {xoc : Value} {xod xan xcdd xcld : Option Addr} {xT xcda xcc : Addr} {xoT : Obj} {xnT : Nat} {xkV xdoc xpm xct xccl xcl : Value} {xosl xccs xcsl : Array (Option Value)} {xvs : Array Value} {xfile : Str} {xtf : Tok}
  {o_InvalidBoard : Addr} {nm_InvalidBoard q_InvalidBoard : Str} {N_InvalidBoard : Addr} {bs_InvalidBoard bm_InvalidBoard sub_InvalidBoard : List Value} {sn_InvalidBoard : List Str} {ab_InvalidBoard : Bool} {col_InvalidBoard : Option Bool} {dd_InvalidBoard : Option Addr} {m0_InvalidBoard m1_InvalidBoard m2_InvalidBoard m3_InvalidBoard m5_InvalidBoard : Option Value}
  {o_InvalidBox : Addr} {nm_InvalidBox q_InvalidBox : Str} {N_InvalidBox : Addr} {bs_InvalidBox bm_InvalidBox sub_InvalidBox : List Value} {sn_InvalidBox : List Str} {ab_InvalidBox : Bool} {col_InvalidBox : Option Bool} {dd_InvalidBox : Option Addr} {m0_InvalidBox m1_InvalidBox m2_InvalidBox m3_InvalidBox m5_InvalidBox : Option Value}
  {o_InvalidList : Addr} {nm_InvalidList q_InvalidList : Str} {N_InvalidList : Addr} {bs_InvalidList bm_InvalidList sub_InvalidList : List Value} {sn_InvalidList : List Str} {ab_InvalidList : Bool} {col_InvalidList : Option Bool} {dd_InvalidList : Option Addr} {m0_InvalidList m1_InvalidList m2_InvalidList m3_InvalidList m5_InvalidList : Option Value}
  {o_InvalidNumber : Addr} {nm_InvalidNumber q_InvalidNumber : Str} {N_InvalidNumber : Addr} {bs_InvalidNumber bm_InvalidNumber sub_InvalidNumber : List Value} {sn_InvalidNumber : List Str} {ab_InvalidNumber : Bool} {col_InvalidNumber : Option Bool} {dd_InvalidNumber : Option Addr} {m0_InvalidNumber m1_InvalidNumber m2_InvalidNumber m3_InvalidNumber m5_InvalidNumber : Option Value}
  {o_InvalidOrder : Addr} {nm_InvalidOrder q_InvalidOrder : Str} {N_InvalidOrder : Addr} {bs_InvalidOrder bm_InvalidOrder sub_InvalidOrder : List Value} {sn_InvalidOrder : List Str} {ab_InvalidOrder : Bool} {col_InvalidOrder : Option Bool} {dd_InvalidOrder : Option Addr} {m0_InvalidOrder m1_InvalidOrder m2_InvalidOrder m3_InvalidOrder m5_InvalidOrder : Option Value}
  {o_InvalidShape : Addr} {nm_InvalidShape q_InvalidShape : Str} {N_InvalidShape : Addr} {bs_InvalidShape bm_InvalidShape sub_InvalidShape : List Value} {sn_InvalidShape : List Str} {ab_InvalidShape : Bool} {col_InvalidShape : Option Bool} {dd_InvalidShape : Option Addr} {m0_InvalidShape m1_InvalidShape m2_InvalidShape m3_InvalidShape m5_InvalidShape : Option Value}
  {o_InvalidWord : Addr} {nm_InvalidWord q_InvalidWord : Str} {N_InvalidWord : Addr} {bs_InvalidWord bm_InvalidWord sub_InvalidWord : List Value} {sn_InvalidWord : List Str} {ab_InvalidWord : Bool} {col_InvalidWord : Option Bool} {dd_InvalidWord : Option Addr} {m0_InvalidWord m1_InvalidWord m2_InvalidWord m3_InvalidWord m5_InvalidWord : Option Value}
  {o_TooMany : Addr} {nm_TooMany q_TooMany : Str} {N_TooMany : Addr} {bs_TooMany bm_TooMany sub_TooMany : List Value} {sn_TooMany : List Str} {ab_TooMany : Bool} {col_TooMany : Option Bool} {dd_TooMany : Option Addr} {m0_TooMany m1_TooMany m2_TooMany m3_TooMany m5_TooMany : Option Value}
  {o_Unlike : Addr} {nm_Unlike q_Unlike : Str} {N_Unlike : Addr} {bs_Unlike bm_Unlike sub_Unlike : List Value} {sn_Unlike : List Str} {ab_Unlike : Bool} {col_Unlike : Option Bool} {dd_Unlike : Option Addr} {m0_Unlike m1_Unlike m2_Unlike m3_Unlike m5_Unlike : Option Value} (X : K.In h) (G : h.Ns mainGlobals mg) (hfa : mg "law" = some (.ref fa)) (a0 : PySem.W.nsIn K mainGlobals "is_whole" = some (some (.ref f0)))
  (l0 : K.lookup f0 = some ⟨oc0, od0, .func (PySem.W.fnOf "is_whole" "is_whole" (defArgs s_is_whole) (defBody s_is_whole) (defScope s_is_whole) .none kV0 dc0 pm0 an0 cd0 ct0), sl0⟩)
  (c0 : PySem.W.codeIn K cd0 "is_whole" = true)
  (k0 : PySem.W.keepIn K (.ref f0) = true)
  (a1 : PySem.W.nsIn K mainGlobals "is_count" = some (some (.ref f1)))
  (l1 : K.lookup f1 = some ⟨oc1, od1, .func (PySem.W.fnOf "is_count" "is_count" (defArgs s_is_count) (defBody s_is_count) (defScope s_is_count) .none kV1 dc1 pm1 an1 cd1 ct1), sl1⟩)
  (c1 : PySem.W.codeIn K cd1 "is_count" = true)
  (k1 : PySem.W.keepIn K (.ref f1) = true)
  (a2 : PySem.W.nsIn K mainGlobals "is_letter" = some (some (.ref f2)))
  (l2 : K.lookup f2 = some ⟨oc2, od2, .func (PySem.W.fnOf "is_letter" "is_letter" (defArgs s_is_letter) (defBody s_is_letter) (defScope s_is_letter) .none kV2 dc2 pm2 an2 cd2 ct2), sl2⟩)
  (c2 : PySem.W.codeIn K cd2 "is_letter" = true)
  (k2 : PySem.W.keepIn K (.ref f2) = true)
  (a3 : PySem.W.nsIn K mainGlobals "is_word_by" = some (some (.ref f3)))
  (l3 : K.lookup f3 = some ⟨oc3, od3, .func (PySem.W.fnOf "is_word_by" "is_word_by" (defArgs s_is_word_by) (defBody s_is_word_by) (defScope s_is_word_by) .none kV3 dc3 pm3 an3 cd3 ct3), sl3⟩)
  (c3 : PySem.W.codeIn K cd3 "is_word_by" = true)
  (k3 : PySem.W.keepIn K (.ref f3) = true)
  (a4 : PySem.W.nsIn K mainGlobals "is_order_by" = some (some (.ref f4)))
  (l4 : K.lookup f4 = some ⟨oc4, od4, .func (PySem.W.fnOf "is_order_by" "is_order_by" (defArgs s_is_order_by) (defBody s_is_order_by) (defScope s_is_order_by) .none kV4 dc4 pm4 an4 cd4 ct4), sl4⟩)
  (c4 : PySem.W.codeIn K cd4 "is_order_by" = true)
  (k4 : PySem.W.keepIn K (.ref f4) = true)
  (a5 : PySem.W.nsIn K mainGlobals "check_order" = some (some (.ref f5)))
  (l5 : K.lookup f5 = some ⟨oc5, od5, .func (PySem.W.fnOf "check_order" "check_order" (defArgs s_check_order) (defBody s_check_order) (defScope s_check_order) .none kV5 dc5 pm5 an5 cd5 ct5), sl5⟩)
  (c5 : PySem.W.codeIn K cd5 "check_order" = true)
  (k5 : PySem.W.keepIn K (.ref f5) = true)
  (a6 : PySem.W.nsIn K mainGlobals "whole_product" = some (some (.ref f6)))
  (l6 : K.lookup f6 = some ⟨oc6, od6, .func (PySem.W.fnOf "whole_product" "whole_product" (defArgs s_whole_product) (defBody s_whole_product) (defScope s_whole_product) .none kV6 dc6 pm6 an6 cd6 ct6), sl6⟩)
  (c6 : PySem.W.codeIn K cd6 "whole_product" = true)
  (k6 : PySem.W.keepIn K (.ref f6) = true)
  (a7 : PySem.W.nsIn K mainGlobals "check_size" = some (some (.ref f7)))
  (l7 : K.lookup f7 = some ⟨oc7, od7, .func (PySem.W.fnOf "check_size" "check_size" (defArgs s_check_size) (defBody s_check_size) (defScope s_check_size) .none kV7 dc7 pm7 an7 cd7 ct7), sl7⟩)
  (c7 : PySem.W.codeIn K cd7 "check_size" = true)
  (k7 : PySem.W.keepIn K (.ref f7) = true)
  (a8 : PySem.W.nsIn K mainGlobals "code_by" = some (some (.ref f8)))
  (l8 : K.lookup f8 = some ⟨oc8, od8, .func (PySem.W.fnOf "code_by" "code_by" (defArgs s_code_by) (defBody s_code_by) (defScope s_code_by) .none kV8 dc8 pm8 an8 cd8 ct8), sl8⟩)
  (c8 : PySem.W.codeIn K cd8 "code_by" = true)
  (k8 : PySem.W.keepIn K (.ref f8) = true)
  (a9 : PySem.W.nsIn K mainGlobals "order_with" = some (some (.ref f9)))
  (l9 : K.lookup f9 = some ⟨oc9, od9, .func (PySem.W.fnOf "order_with" "order_with" (defArgs s_order_with) (defBody s_order_with) (defScope s_order_with) .none kV9 dc9 pm9 an9 cd9 ct9), sl9⟩)
  (c9 : PySem.W.codeIn K cd9 "order_with" = true)
  (k9 : PySem.W.keepIn K (.ref f9) = true)
  (a10 : PySem.W.nsIn K mainGlobals "order_position" = some (some (.ref f10)))
  (l10 : K.lookup f10 = some ⟨oc10, od10, .func (PySem.W.fnOf "order_position" "order_position" (defArgs s_order_position) (defBody s_order_position) (defScope s_order_position) .none kV10 dc10 pm10 an10 cd10 ct10), sl10⟩)
  (c10 : PySem.W.codeIn K cd10 "order_position" = true)
  (k10 : PySem.W.keepIn K (.ref f10) = true)
  (a11 : PySem.W.nsIn K mainGlobals "order_at" = some (some (.ref f11)))
  (l11 : K.lookup f11 = some ⟨oc11, od11, .func (PySem.W.fnOf "order_at" "order_at" (defArgs s_order_at) (defBody s_order_at) (defScope s_order_at) .none kV11 dc11 pm11 an11 cd11 ct11), sl11⟩)
  (c11 : PySem.W.codeIn K cd11 "order_at" = true)
  (k11 : PySem.W.keepIn K (.ref f11) = true)
  (a12 : PySem.W.nsIn K mainGlobals "_law_hash" = some (some (.ref f12)))
  (l12 : K.lookup f12 = some ⟨oc12, od12, .func (PySem.W.fnOf "_law_hash" "_law_hash" (defArgs s__law_hash) (defBody s__law_hash) (defScope s__law_hash) .none kV12 dc12 pm12 an12 cd12 ct12), sl12⟩)
  (c12 : PySem.W.codeIn K cd12 "_law_hash" = true)
  (k12 : PySem.W.keepIn K (.ref f12) = true)
  (a13 : PySem.W.nsIn K mainGlobals "_law_random" = some (some (.ref f13)))
  (l13 : K.lookup f13 = some ⟨oc13, od13, .func (PySem.W.fnOf "_law_random" "_law_random" (defArgs s__law_random) (defBody s__law_random) (defScope s__law_random) .none kV13 dc13 pm13 an13 cd13 ct13), sl13⟩)
  (c13 : PySem.W.codeIn K cd13 "_law_random" = true)
  (k13 : PySem.W.keepIn K (.ref f13) = true)
  (a14 : PySem.W.nsIn K mainGlobals "_law_cell" = some (some (.ref f14)))
  (l14 : K.lookup f14 = some ⟨oc14, od14, .func (PySem.W.fnOf "_law_cell" "_law_cell" (defArgs s__law_cell) (defBody s__law_cell) (defScope s__law_cell) .none kV14 dc14 pm14 an14 cd14 ct14), sl14⟩)
  (c14 : PySem.W.codeIn K cd14 "_law_cell" = true)
  (k14 : PySem.W.keepIn K (.ref f14) = true)
  (a15 : PySem.W.nsIn K mainGlobals "_law_generator" = some (some (.ref f15)))
  (l15 : K.lookup f15 = some ⟨oc15, od15, .func (PySem.W.fnOf "_law_generator" "_law_generator" (defArgs s__law_generator) (defBody s__law_generator) (defScope s__law_generator) .none kV15 dc15 pm15 an15 cd15 ct15), sl15⟩)
  (c15 : PySem.W.codeIn K cd15 "_law_generator" = true)
  (k15 : PySem.W.keepIn K (.ref f15) = true)
  (a16 : PySem.W.nsIn K mainGlobals "_law_exact" = some (some (.ref f16)))
  (l16 : K.lookup f16 = some ⟨oc16, od16, .func (PySem.W.fnOf "_law_exact" "_law_exact" (defArgs s__law_exact) (defBody s__law_exact) (defScope s__law_exact) .none kV16 dc16 pm16 an16 cd16 ct16), sl16⟩)
  (c16 : PySem.W.codeIn K cd16 "_law_exact" = true)
  (k16 : PySem.W.keepIn K (.ref f16) = true)
  (a17 : PySem.W.nsIn K mainGlobals "_law_order" = some (some (.ref f17)))
  (l17 : K.lookup f17 = some ⟨oc17, od17, .func (PySem.W.fnOf "_law_order" "_law_order" (defArgs s__law_order) (defBody s__law_order) (defScope s__law_order) .none kV17 dc17 pm17 an17 cd17 ct17), sl17⟩)
  (c17 : PySem.W.codeIn K cd17 "_law_order" = true)
  (k17 : PySem.W.keepIn K (.ref f17) = true)
  (a18 : PySem.W.nsIn K mainGlobals "_law_marked" = some (some (.ref f18)))
  (l18 : K.lookup f18 = some ⟨oc18, od18, .func (PySem.W.fnOf "_law_marked" "_law_marked" (defArgs s__law_marked) (defBody s__law_marked) (defScope s__law_marked) .none kV18 dc18 pm18 an18 cd18 ct18), sl18⟩)
  (c18 : PySem.W.codeIn K cd18 "_law_marked" = true)
  (k18 : PySem.W.keepIn K (.ref f18) = true)
  (a19 : PySem.W.nsIn K mainGlobals "_law_caught" = some (some (.ref f19)))
  (l19 : K.lookup f19 = some ⟨oc19, od19, .func (PySem.W.fnOf "_law_caught" "_law_caught" (defArgs s__law_caught) (defBody s__law_caught) (defScope s__law_caught) .none kV19 dc19 pm19 an19 cd19 ct19), sl19⟩)
  (c19 : PySem.W.codeIn K cd19 "_law_caught" = true)
  (k19 : PySem.W.keepIn K (.ref f19) = true)
  (a20 : PySem.W.nsIn K mainGlobals "_law_all_caught" = some (some (.ref f20)))
  (l20 : K.lookup f20 = some ⟨oc20, od20, .func (PySem.W.fnOf "_law_all_caught" "_law_all_caught" (defArgs s__law_all_caught) (defBody s__law_all_caught) (defScope s__law_all_caught) .none kV20 dc20 pm20 an20 cd20 ct20), sl20⟩)
  (c20 : PySem.W.codeIn K cd20 "_law_all_caught" = true)
  (k20 : PySem.W.keepIn K (.ref f20) = true)
  (a21 : PySem.W.nsIn K mainGlobals "_law_bad_words" = some (some (.ref f21)))
  (l21 : K.lookup f21 = some ⟨oc21, od21, .func (PySem.W.fnOf "_law_bad_words" "_law_bad_words" (defArgs s__law_bad_words) (defBody s__law_bad_words) (defScope s__law_bad_words) .none kV21 dc21 pm21 an21 cd21 ct21), sl21⟩)
  (c21 : PySem.W.codeIn K cd21 "_law_bad_words" = true)
  (k21 : PySem.W.keepIn K (.ref f21) = true)
  (a22 : PySem.W.nsIn K mainGlobals "_law_drawn" = some (some (.ref f22)))
  (l22 : K.lookup f22 = some ⟨oc22, od22, .func (PySem.W.fnOf "_law_drawn" "_law_drawn" (defArgs s__law_drawn) (defBody s__law_drawn) (defScope s__law_drawn) .none kV22 dc22 pm22 an22 cd22 ct22), sl22⟩)
  (c22 : PySem.W.codeIn K cd22 "_law_drawn" = true)
  (k22 : PySem.W.keepIn K (.ref f22) = true)
  (a23 : PySem.W.nsIn K mainGlobals "_law_product" = some (some (.ref f23)))
  (l23 : K.lookup f23 = some ⟨oc23, od23, .func (PySem.W.fnOf "_law_product" "_law_product" (defArgs s__law_product) (defBody s__law_product) (defScope s__law_product) .none kV23 dc23 pm23 an23 cd23 ct23), sl23⟩)
  (c23 : PySem.W.codeIn K cd23 "_law_product" = true)
  (k23 : PySem.W.keepIn K (.ref f23) = true)
  (a24 : PySem.W.nsIn K mainGlobals "_law_factorial" = some (some (.ref f24)))
  (l24 : K.lookup f24 = some ⟨oc24, od24, .func (PySem.W.fnOf "_law_factorial" "_law_factorial" (defArgs s__law_factorial) (defBody s__law_factorial) (defScope s__law_factorial) .none kV24 dc24 pm24 an24 cd24 ct24), sl24⟩)
  (c24 : PySem.W.codeIn K cd24 "_law_factorial" = true)
  (k24 : PySem.W.keepIn K (.ref f24) = true)
  (a25 : PySem.W.nsIn K mainGlobals "_law_code" = some (some (.ref f25)))
  (l25 : K.lookup f25 = some ⟨oc25, od25, .func (PySem.W.fnOf "_law_code" "_law_code" (defArgs s__law_code) (defBody s__law_code) (defScope s__law_code) .none kV25 dc25 pm25 an25 cd25 ct25), sl25⟩)
  (c25 : PySem.W.codeIn K cd25 "_law_code" = true)
  (k25 : PySem.W.keepIn K (.ref f25) = true)
  (a26 : PySem.W.nsIn K mainGlobals "_law_bad_orders" = some (some (.ref f26)))
  (l26 : K.lookup f26 = some ⟨oc26, od26, .func (PySem.W.fnOf "_law_bad_orders" "_law_bad_orders" (defArgs s__law_bad_orders) (defBody s__law_bad_orders) (defScope s__law_bad_orders) .none kV26 dc26 pm26 an26 cd26 ct26), sl26⟩)
  (c26 : PySem.W.codeIn K cd26 "_law_bad_orders" = true)
  (k26 : PySem.W.keepIn K (.ref f26) = true)
  (a27 : PySem.W.nsIn K mainGlobals "_law_position" = some (some (.ref f27)))
  (l27 : K.lookup f27 = some ⟨oc27, od27, .func (PySem.W.fnOf "_law_position" "_law_position" (defArgs s__law_position) (defBody s__law_position) (defScope s__law_position) .none kV27 dc27 pm27 an27 cd27 ct27), sl27⟩)
  (c27 : PySem.W.codeIn K cd27 "_law_position" = true)
  (k27 : PySem.W.keepIn K (.ref f27) = true)
  (a28 : PySem.W.nsIn K mainGlobals "_law_all" = some (some (.ref f28)))
  (l28 : K.lookup f28 = some ⟨oc28, od28, .func (PySem.W.fnOf "_law_all" "_law_all" (defArgs s__law_all) (defBody s__law_all) (defScope s__law_all) .none kV28 dc28 pm28 an28 cd28 ct28), sl28⟩)
  (c28 : PySem.W.codeIn K cd28 "_law_all" = true)
  (k28 : PySem.W.keepIn K (.ref f28) = true)
  (a29 : PySem.W.nsIn K mainGlobals "_law_right" = some (some (.ref f29)))
  (l29 : K.lookup f29 = some ⟨oc29, od29, .func (PySem.W.fnOf "_law_right" "_law_right" (defArgs s__law_right) (defBody s__law_right) (defScope s__law_right) .none kV29 dc29 pm29 an29 (.ref kk29) ct29), sl29⟩)
  (c29 : PySem.W.codeIn K (.ref kk29) "_law_right" = true)
  (k29 : PySem.W.keepIn K (.ref f29) = true)
  (a30 : PySem.W.nsIn K mainGlobals "law" = some (some (.ref f30)))
  (l30 : K.lookup f30 = some ⟨oc30, od30, .func (PySem.W.fnOf "law" "law" (defArgs s_law) (defBody s_law) (defScope s_law) .none kV30 dc30 pm30 an30 cd30 ct30), sl30⟩)
  (c30 : PySem.W.codeIn K cd30 "law" = true)
  (k30 : PySem.W.keepIn K (.ref f30) = true)
  (y129 : K.lookup kk29 = some ⟨kv29, ko29, .fields ka29, kx29⟩)
  (y229 : ka29[11]? = some (.ref kp29))
  (y329 : K.lookup kp29 = none)
  (y429 : PySem.W.codeHdIn K kk29 kp29 = true)
  (y529 : h.get? kp29 = some (PySem.W.tabObj #[]))
  (z_all : PySem.W.nsIn K mainGlobals "all" = some none)
  (z_any : PySem.W.nsIn K mainGlobals "any" = some none)
  (z_bool : PySem.W.nsIn K mainGlobals "bool" = some none)
  (z_enumerate : PySem.W.nsIn K mainGlobals "enumerate" = some none)
  (z_int : PySem.W.nsIn K mainGlobals "int" = some none)
  (z_isinstance : PySem.W.nsIn K mainGlobals "isinstance" = some none)
  (z_len : PySem.W.nsIn K mainGlobals "len" = some none)
  (z_list : PySem.W.nsIn K mainGlobals "list" = some none)
  (z_max : PySem.W.nsIn K mainGlobals "max" = some none)
  (z_range : PySem.W.nsIn K mainGlobals "range" = some none)
  (z_repr : PySem.W.nsIn K mainGlobals "repr" = some none)
  (z_sorted : PySem.W.nsIn K mainGlobals "sorted" = some none)
  (z_sum : PySem.W.nsIn K mainGlobals "sum" = some none)
  (z_tuple : PySem.W.nsIn K mainGlobals "tuple" = some none)
  (m_MOST_LENGTH : PySem.W.nsIn K mainGlobals "MOST_LENGTH" = some (some (.int 12 t_MOST_LENGTH)))
  (m_MOST_LETTER : PySem.W.nsIn K mainGlobals "MOST_LETTER" = some (some (.int 20 t_MOST_LETTER)))
  (hD : PySem.W.nsIn K mainGlobals "BoxError" = some (some (.ref bD)))
  (xI : PySem.W.findIn K (.ref bD) "__init__" = some (some (.ref bI)))
  (x1 : K.lookup bI = some ⟨xoc, xod, .func (PySem.W.fnX "__init__" "BoxError.__init__" (PySem.BoxX.iA ⟨4, 17, 4, 21⟩ ⟨4, 23, 4, 28⟩ (.Constant .none 0 ⟨4, 29, 4, 33⟩)) PySem.BoxX.iB PySem.BoxX.iS [("__class__", xcc)] (.ref xT) xkV xdoc xpm xan (.ref xcda) xct), xosl⟩)
  (x2 : PySem.W.codeIn K (.ref xcda) "BoxError.__init__" = true)
  (x3 : K.lookup xT = some xoT)
  (x4 : xoT.data = .seq #[.none] xnT)
  (x5 : K.lookup xcda = some ⟨xccl, xcdd, .fields xvs, xccs⟩)
  (x6 : xvs[2]? = some (.str xfile xtf))
  (x7 : ((P.main.file : Str) == xfile) = true)
  (x8 : K.lookup xcc = some ⟨xcl, xcld, .cell (some (.ref bD)), xcsl⟩)
  (x9 : PySem.W.isClsIn K bD = true)
  (x10 : PySem.W.nsIn K mainGlobals "super" = some none)
  (x11 : PySem.W.nsIn K cStatics "thirdparty.any" = some none)
  (x12 : (P.main.scope.names.lookup ("super" : Str)).isSome = false)
  (x13 : PySem.W.typeIn K (.ref bI) = some (.type "function"))
  (x14 : PySem.W.subIn K (.ref bD) (.type "BaseException") = some true)
  (x15 : PySem.W.hasDictIn K bD = true)
  (x16 : PySem.W.typeIn K (.ref bD) = some (.type "type"))
  (x18 : PySem.W.takesIn K (.builtin "object.__class__") = some true)
  (x17 : PySem.W.specialIn K (.builtin "object.__class__") "__get__" = some (some (.builtin "getset_descriptor.__get__")))
  (g_InvalidBoard : PySem.W.nsIn K mainGlobals "InvalidBoard" = some (some (.ref o_InvalidBoard)))
  (g1_InvalidBoard : K.lookup o_InvalidBoard = some (excClassObj nm_InvalidBoard q_InvalidBoard o_InvalidBoard N_InvalidBoard bs_InvalidBoard bm_InvalidBoard true sn_InvalidBoard sub_InvalidBoard ab_InvalidBoard col_InvalidBoard dd_InvalidBoard m0_InvalidBoard m1_InvalidBoard m2_InvalidBoard m3_InvalidBoard m5_InvalidBoard "ValueError.__new__"))
  (g2_InvalidBoard : PySem.HandSPX.refsVE bm_InvalidBoard = true)
  (g30_InvalidBoard : PySem.W.findIn K (.ref o_InvalidBoard) "__setattr__" = some (some (.builtin "object.__setattr__")))
  (g31_InvalidBoard : PySem.W.findIn K (.ref o_InvalidBoard) "__getattribute__" = some (some (.builtin "BaseException.__getattribute__")))
  (g32_InvalidBoard : PySem.W.findIn K (.ref o_InvalidBoard) "__getattr__" = some none)
  (g33_InvalidBoard : PySem.W.findIn K (.ref o_InvalidBoard) "value" = some none)
  (g34_InvalidBoard : PySem.W.findIn K (.ref o_InvalidBoard) "__init__" = some (some (.ref bI)))
  (g35_InvalidBoard : PySem.W.findIn K (.ref o_InvalidBoard) "__class__" = some (some (.builtin "object.__class__")))
  (g4_InvalidBoard : PySem.W.subIn K (.ref o_InvalidBoard) (.type "BaseException") = some true)
  (g5_InvalidBoard : PySem.W.typeIn K (.ref o_InvalidBoard) = some (.type "type"))
  (g6_InvalidBoard : PySem.W.keepIn K (.ref o_InvalidBoard) = true)
  (g7_InvalidBoard : PySem.W.mroIn K o_InvalidBoard (.ref bD) = some true)
  (g8_InvalidBoard : PySem.W.ks_superIn K o_InvalidBoard bD "__init__" = some (some (.builtin "ValueError.__init__")))
  (g9_InvalidBoard : PySem.W.subIn K (.ref o_InvalidBoard) (.type "ValueError") = some true)
  (ga_InvalidBoard : PySem.W.hasDictIn K o_InvalidBoard = true)
  (gb_InvalidBoard : PySem.W.isClsIn K o_InvalidBoard = true)
  (gc_InvalidBoard : PySem.W.subIn K (.ref o_InvalidBoard) (.ref bD) = some true)
  (ge_InvalidBoard : PySem.W.mroIn K o_InvalidBoard (.type "object") = some true)
  (gd_InvalidBoard : PySem.W.kitOne K (.type "NoneType") (.ref o_InvalidBoard) = some false)
  (g_InvalidBox : PySem.W.nsIn K mainGlobals "InvalidBox" = some (some (.ref o_InvalidBox)))
  (g1_InvalidBox : K.lookup o_InvalidBox = some (excClassObj nm_InvalidBox q_InvalidBox o_InvalidBox N_InvalidBox bs_InvalidBox bm_InvalidBox true sn_InvalidBox sub_InvalidBox ab_InvalidBox col_InvalidBox dd_InvalidBox m0_InvalidBox m1_InvalidBox m2_InvalidBox m3_InvalidBox m5_InvalidBox "ValueError.__new__"))
  (g2_InvalidBox : PySem.HandSPX.refsVE bm_InvalidBox = true)
  (g30_InvalidBox : PySem.W.findIn K (.ref o_InvalidBox) "__setattr__" = some (some (.builtin "object.__setattr__")))
  (g31_InvalidBox : PySem.W.findIn K (.ref o_InvalidBox) "__getattribute__" = some (some (.builtin "BaseException.__getattribute__")))
  (g32_InvalidBox : PySem.W.findIn K (.ref o_InvalidBox) "__getattr__" = some none)
  (g33_InvalidBox : PySem.W.findIn K (.ref o_InvalidBox) "value" = some none)
  (g34_InvalidBox : PySem.W.findIn K (.ref o_InvalidBox) "__init__" = some (some (.ref bI)))
  (g35_InvalidBox : PySem.W.findIn K (.ref o_InvalidBox) "__class__" = some (some (.builtin "object.__class__")))
  (g4_InvalidBox : PySem.W.subIn K (.ref o_InvalidBox) (.type "BaseException") = some true)
  (g5_InvalidBox : PySem.W.typeIn K (.ref o_InvalidBox) = some (.type "type"))
  (g6_InvalidBox : PySem.W.keepIn K (.ref o_InvalidBox) = true)
  (g7_InvalidBox : PySem.W.mroIn K o_InvalidBox (.ref bD) = some true)
  (g8_InvalidBox : PySem.W.ks_superIn K o_InvalidBox bD "__init__" = some (some (.builtin "ValueError.__init__")))
  (g9_InvalidBox : PySem.W.subIn K (.ref o_InvalidBox) (.type "ValueError") = some true)
  (ga_InvalidBox : PySem.W.hasDictIn K o_InvalidBox = true)
  (gb_InvalidBox : PySem.W.isClsIn K o_InvalidBox = true)
  (gc_InvalidBox : PySem.W.subIn K (.ref o_InvalidBox) (.ref bD) = some true)
  (ge_InvalidBox : PySem.W.mroIn K o_InvalidBox (.type "object") = some true)
  (gd_InvalidBox : PySem.W.kitOne K (.type "NoneType") (.ref o_InvalidBox) = some false)
  (g_InvalidList : PySem.W.nsIn K mainGlobals "InvalidList" = some (some (.ref o_InvalidList)))
  (g1_InvalidList : K.lookup o_InvalidList = some (excClassObj nm_InvalidList q_InvalidList o_InvalidList N_InvalidList bs_InvalidList bm_InvalidList true sn_InvalidList sub_InvalidList ab_InvalidList col_InvalidList dd_InvalidList m0_InvalidList m1_InvalidList m2_InvalidList m3_InvalidList m5_InvalidList "ValueError.__new__"))
  (g2_InvalidList : PySem.HandSPX.refsVE bm_InvalidList = true)
  (g30_InvalidList : PySem.W.findIn K (.ref o_InvalidList) "__setattr__" = some (some (.builtin "object.__setattr__")))
  (g31_InvalidList : PySem.W.findIn K (.ref o_InvalidList) "__getattribute__" = some (some (.builtin "BaseException.__getattribute__")))
  (g32_InvalidList : PySem.W.findIn K (.ref o_InvalidList) "__getattr__" = some none)
  (g33_InvalidList : PySem.W.findIn K (.ref o_InvalidList) "value" = some none)
  (g34_InvalidList : PySem.W.findIn K (.ref o_InvalidList) "__init__" = some (some (.ref bI)))
  (g35_InvalidList : PySem.W.findIn K (.ref o_InvalidList) "__class__" = some (some (.builtin "object.__class__")))
  (g4_InvalidList : PySem.W.subIn K (.ref o_InvalidList) (.type "BaseException") = some true)
  (g5_InvalidList : PySem.W.typeIn K (.ref o_InvalidList) = some (.type "type"))
  (g6_InvalidList : PySem.W.keepIn K (.ref o_InvalidList) = true)
  (g7_InvalidList : PySem.W.mroIn K o_InvalidList (.ref bD) = some true)
  (g8_InvalidList : PySem.W.ks_superIn K o_InvalidList bD "__init__" = some (some (.builtin "ValueError.__init__")))
  (g9_InvalidList : PySem.W.subIn K (.ref o_InvalidList) (.type "ValueError") = some true)
  (ga_InvalidList : PySem.W.hasDictIn K o_InvalidList = true)
  (gb_InvalidList : PySem.W.isClsIn K o_InvalidList = true)
  (gc_InvalidList : PySem.W.subIn K (.ref o_InvalidList) (.ref bD) = some true)
  (ge_InvalidList : PySem.W.mroIn K o_InvalidList (.type "object") = some true)
  (gd_InvalidList : PySem.W.kitOne K (.type "NoneType") (.ref o_InvalidList) = some false)
  (g_InvalidNumber : PySem.W.nsIn K mainGlobals "InvalidNumber" = some (some (.ref o_InvalidNumber)))
  (g1_InvalidNumber : K.lookup o_InvalidNumber = some (excClassObj nm_InvalidNumber q_InvalidNumber o_InvalidNumber N_InvalidNumber bs_InvalidNumber bm_InvalidNumber true sn_InvalidNumber sub_InvalidNumber ab_InvalidNumber col_InvalidNumber dd_InvalidNumber m0_InvalidNumber m1_InvalidNumber m2_InvalidNumber m3_InvalidNumber m5_InvalidNumber "ValueError.__new__"))
  (g2_InvalidNumber : PySem.HandSPX.refsVE bm_InvalidNumber = true)
  (g30_InvalidNumber : PySem.W.findIn K (.ref o_InvalidNumber) "__setattr__" = some (some (.builtin "object.__setattr__")))
  (g31_InvalidNumber : PySem.W.findIn K (.ref o_InvalidNumber) "__getattribute__" = some (some (.builtin "BaseException.__getattribute__")))
  (g32_InvalidNumber : PySem.W.findIn K (.ref o_InvalidNumber) "__getattr__" = some none)
  (g33_InvalidNumber : PySem.W.findIn K (.ref o_InvalidNumber) "value" = some none)
  (g34_InvalidNumber : PySem.W.findIn K (.ref o_InvalidNumber) "__init__" = some (some (.ref bI)))
  (g35_InvalidNumber : PySem.W.findIn K (.ref o_InvalidNumber) "__class__" = some (some (.builtin "object.__class__")))
  (g4_InvalidNumber : PySem.W.subIn K (.ref o_InvalidNumber) (.type "BaseException") = some true)
  (g5_InvalidNumber : PySem.W.typeIn K (.ref o_InvalidNumber) = some (.type "type"))
  (g6_InvalidNumber : PySem.W.keepIn K (.ref o_InvalidNumber) = true)
  (g7_InvalidNumber : PySem.W.mroIn K o_InvalidNumber (.ref bD) = some true)
  (g8_InvalidNumber : PySem.W.ks_superIn K o_InvalidNumber bD "__init__" = some (some (.builtin "ValueError.__init__")))
  (g9_InvalidNumber : PySem.W.subIn K (.ref o_InvalidNumber) (.type "ValueError") = some true)
  (ga_InvalidNumber : PySem.W.hasDictIn K o_InvalidNumber = true)
  (gb_InvalidNumber : PySem.W.isClsIn K o_InvalidNumber = true)
  (gc_InvalidNumber : PySem.W.subIn K (.ref o_InvalidNumber) (.ref bD) = some true)
  (ge_InvalidNumber : PySem.W.mroIn K o_InvalidNumber (.type "object") = some true)
  (gd_InvalidNumber : PySem.W.kitOne K (.type "NoneType") (.ref o_InvalidNumber) = some false)
  (g_InvalidOrder : PySem.W.nsIn K mainGlobals "InvalidOrder" = some (some (.ref o_InvalidOrder)))
  (g1_InvalidOrder : K.lookup o_InvalidOrder = some (excClassObj nm_InvalidOrder q_InvalidOrder o_InvalidOrder N_InvalidOrder bs_InvalidOrder bm_InvalidOrder true sn_InvalidOrder sub_InvalidOrder ab_InvalidOrder col_InvalidOrder dd_InvalidOrder m0_InvalidOrder m1_InvalidOrder m2_InvalidOrder m3_InvalidOrder m5_InvalidOrder "ValueError.__new__"))
  (g2_InvalidOrder : PySem.HandSPX.refsVE bm_InvalidOrder = true)
  (g30_InvalidOrder : PySem.W.findIn K (.ref o_InvalidOrder) "__setattr__" = some (some (.builtin "object.__setattr__")))
  (g31_InvalidOrder : PySem.W.findIn K (.ref o_InvalidOrder) "__getattribute__" = some (some (.builtin "BaseException.__getattribute__")))
  (g32_InvalidOrder : PySem.W.findIn K (.ref o_InvalidOrder) "__getattr__" = some none)
  (g33_InvalidOrder : PySem.W.findIn K (.ref o_InvalidOrder) "value" = some none)
  (g34_InvalidOrder : PySem.W.findIn K (.ref o_InvalidOrder) "__init__" = some (some (.ref bI)))
  (g35_InvalidOrder : PySem.W.findIn K (.ref o_InvalidOrder) "__class__" = some (some (.builtin "object.__class__")))
  (g4_InvalidOrder : PySem.W.subIn K (.ref o_InvalidOrder) (.type "BaseException") = some true)
  (g5_InvalidOrder : PySem.W.typeIn K (.ref o_InvalidOrder) = some (.type "type"))
  (g6_InvalidOrder : PySem.W.keepIn K (.ref o_InvalidOrder) = true)
  (g7_InvalidOrder : PySem.W.mroIn K o_InvalidOrder (.ref bD) = some true)
  (g8_InvalidOrder : PySem.W.ks_superIn K o_InvalidOrder bD "__init__" = some (some (.builtin "ValueError.__init__")))
  (g9_InvalidOrder : PySem.W.subIn K (.ref o_InvalidOrder) (.type "ValueError") = some true)
  (ga_InvalidOrder : PySem.W.hasDictIn K o_InvalidOrder = true)
  (gb_InvalidOrder : PySem.W.isClsIn K o_InvalidOrder = true)
  (gc_InvalidOrder : PySem.W.subIn K (.ref o_InvalidOrder) (.ref bD) = some true)
  (ge_InvalidOrder : PySem.W.mroIn K o_InvalidOrder (.type "object") = some true)
  (gd_InvalidOrder : PySem.W.kitOne K (.type "NoneType") (.ref o_InvalidOrder) = some false)
  (g_InvalidShape : PySem.W.nsIn K mainGlobals "InvalidShape" = some (some (.ref o_InvalidShape)))
  (g1_InvalidShape : K.lookup o_InvalidShape = some (excClassObj nm_InvalidShape q_InvalidShape o_InvalidShape N_InvalidShape bs_InvalidShape bm_InvalidShape true sn_InvalidShape sub_InvalidShape ab_InvalidShape col_InvalidShape dd_InvalidShape m0_InvalidShape m1_InvalidShape m2_InvalidShape m3_InvalidShape m5_InvalidShape "ValueError.__new__"))
  (g2_InvalidShape : PySem.HandSPX.refsVE bm_InvalidShape = true)
  (g30_InvalidShape : PySem.W.findIn K (.ref o_InvalidShape) "__setattr__" = some (some (.builtin "object.__setattr__")))
  (g31_InvalidShape : PySem.W.findIn K (.ref o_InvalidShape) "__getattribute__" = some (some (.builtin "BaseException.__getattribute__")))
  (g32_InvalidShape : PySem.W.findIn K (.ref o_InvalidShape) "__getattr__" = some none)
  (g33_InvalidShape : PySem.W.findIn K (.ref o_InvalidShape) "value" = some none)
  (g34_InvalidShape : PySem.W.findIn K (.ref o_InvalidShape) "__init__" = some (some (.ref bI)))
  (g35_InvalidShape : PySem.W.findIn K (.ref o_InvalidShape) "__class__" = some (some (.builtin "object.__class__")))
  (g4_InvalidShape : PySem.W.subIn K (.ref o_InvalidShape) (.type "BaseException") = some true)
  (g5_InvalidShape : PySem.W.typeIn K (.ref o_InvalidShape) = some (.type "type"))
  (g6_InvalidShape : PySem.W.keepIn K (.ref o_InvalidShape) = true)
  (g7_InvalidShape : PySem.W.mroIn K o_InvalidShape (.ref bD) = some true)
  (g8_InvalidShape : PySem.W.ks_superIn K o_InvalidShape bD "__init__" = some (some (.builtin "ValueError.__init__")))
  (g9_InvalidShape : PySem.W.subIn K (.ref o_InvalidShape) (.type "ValueError") = some true)
  (ga_InvalidShape : PySem.W.hasDictIn K o_InvalidShape = true)
  (gb_InvalidShape : PySem.W.isClsIn K o_InvalidShape = true)
  (gc_InvalidShape : PySem.W.subIn K (.ref o_InvalidShape) (.ref bD) = some true)
  (ge_InvalidShape : PySem.W.mroIn K o_InvalidShape (.type "object") = some true)
  (gd_InvalidShape : PySem.W.kitOne K (.type "NoneType") (.ref o_InvalidShape) = some false)
  (g_InvalidWord : PySem.W.nsIn K mainGlobals "InvalidWord" = some (some (.ref o_InvalidWord)))
  (g1_InvalidWord : K.lookup o_InvalidWord = some (excClassObj nm_InvalidWord q_InvalidWord o_InvalidWord N_InvalidWord bs_InvalidWord bm_InvalidWord true sn_InvalidWord sub_InvalidWord ab_InvalidWord col_InvalidWord dd_InvalidWord m0_InvalidWord m1_InvalidWord m2_InvalidWord m3_InvalidWord m5_InvalidWord "ValueError.__new__"))
  (g2_InvalidWord : PySem.HandSPX.refsVE bm_InvalidWord = true)
  (g30_InvalidWord : PySem.W.findIn K (.ref o_InvalidWord) "__setattr__" = some (some (.builtin "object.__setattr__")))
  (g31_InvalidWord : PySem.W.findIn K (.ref o_InvalidWord) "__getattribute__" = some (some (.builtin "BaseException.__getattribute__")))
  (g32_InvalidWord : PySem.W.findIn K (.ref o_InvalidWord) "__getattr__" = some none)
  (g33_InvalidWord : PySem.W.findIn K (.ref o_InvalidWord) "value" = some none)
  (g34_InvalidWord : PySem.W.findIn K (.ref o_InvalidWord) "__init__" = some (some (.ref bI)))
  (g35_InvalidWord : PySem.W.findIn K (.ref o_InvalidWord) "__class__" = some (some (.builtin "object.__class__")))
  (g4_InvalidWord : PySem.W.subIn K (.ref o_InvalidWord) (.type "BaseException") = some true)
  (g5_InvalidWord : PySem.W.typeIn K (.ref o_InvalidWord) = some (.type "type"))
  (g6_InvalidWord : PySem.W.keepIn K (.ref o_InvalidWord) = true)
  (g7_InvalidWord : PySem.W.mroIn K o_InvalidWord (.ref bD) = some true)
  (g8_InvalidWord : PySem.W.ks_superIn K o_InvalidWord bD "__init__" = some (some (.builtin "ValueError.__init__")))
  (g9_InvalidWord : PySem.W.subIn K (.ref o_InvalidWord) (.type "ValueError") = some true)
  (ga_InvalidWord : PySem.W.hasDictIn K o_InvalidWord = true)
  (gb_InvalidWord : PySem.W.isClsIn K o_InvalidWord = true)
  (gc_InvalidWord : PySem.W.subIn K (.ref o_InvalidWord) (.ref bD) = some true)
  (ge_InvalidWord : PySem.W.mroIn K o_InvalidWord (.type "object") = some true)
  (gd_InvalidWord : PySem.W.kitOne K (.type "NoneType") (.ref o_InvalidWord) = some false)
  (g_TooMany : PySem.W.nsIn K mainGlobals "TooMany" = some (some (.ref o_TooMany)))
  (g1_TooMany : K.lookup o_TooMany = some (excClassObj nm_TooMany q_TooMany o_TooMany N_TooMany bs_TooMany bm_TooMany true sn_TooMany sub_TooMany ab_TooMany col_TooMany dd_TooMany m0_TooMany m1_TooMany m2_TooMany m3_TooMany m5_TooMany "ValueError.__new__"))
  (g2_TooMany : PySem.HandSPX.refsVE bm_TooMany = true)
  (g30_TooMany : PySem.W.findIn K (.ref o_TooMany) "__setattr__" = some (some (.builtin "object.__setattr__")))
  (g31_TooMany : PySem.W.findIn K (.ref o_TooMany) "__getattribute__" = some (some (.builtin "BaseException.__getattribute__")))
  (g32_TooMany : PySem.W.findIn K (.ref o_TooMany) "__getattr__" = some none)
  (g33_TooMany : PySem.W.findIn K (.ref o_TooMany) "value" = some none)
  (g34_TooMany : PySem.W.findIn K (.ref o_TooMany) "__init__" = some (some (.ref bI)))
  (g35_TooMany : PySem.W.findIn K (.ref o_TooMany) "__class__" = some (some (.builtin "object.__class__")))
  (g4_TooMany : PySem.W.subIn K (.ref o_TooMany) (.type "BaseException") = some true)
  (g5_TooMany : PySem.W.typeIn K (.ref o_TooMany) = some (.type "type"))
  (g6_TooMany : PySem.W.keepIn K (.ref o_TooMany) = true)
  (g7_TooMany : PySem.W.mroIn K o_TooMany (.ref bD) = some true)
  (g8_TooMany : PySem.W.ks_superIn K o_TooMany bD "__init__" = some (some (.builtin "ValueError.__init__")))
  (g9_TooMany : PySem.W.subIn K (.ref o_TooMany) (.type "ValueError") = some true)
  (ga_TooMany : PySem.W.hasDictIn K o_TooMany = true)
  (gb_TooMany : PySem.W.isClsIn K o_TooMany = true)
  (gc_TooMany : PySem.W.subIn K (.ref o_TooMany) (.ref bD) = some true)
  (ge_TooMany : PySem.W.mroIn K o_TooMany (.type "object") = some true)
  (gd_TooMany : PySem.W.kitOne K (.type "NoneType") (.ref o_TooMany) = some false)
  (g_Unlike : PySem.W.nsIn K mainGlobals "Unlike" = some (some (.ref o_Unlike)))
  (g1_Unlike : K.lookup o_Unlike = some (excClassObj nm_Unlike q_Unlike o_Unlike N_Unlike bs_Unlike bm_Unlike true sn_Unlike sub_Unlike ab_Unlike col_Unlike dd_Unlike m0_Unlike m1_Unlike m2_Unlike m3_Unlike m5_Unlike "ValueError.__new__"))
  (g2_Unlike : PySem.HandSPX.refsVE bm_Unlike = true)
  (g30_Unlike : PySem.W.findIn K (.ref o_Unlike) "__setattr__" = some (some (.builtin "object.__setattr__")))
  (g31_Unlike : PySem.W.findIn K (.ref o_Unlike) "__getattribute__" = some (some (.builtin "BaseException.__getattribute__")))
  (g32_Unlike : PySem.W.findIn K (.ref o_Unlike) "__getattr__" = some none)
  (g33_Unlike : PySem.W.findIn K (.ref o_Unlike) "value" = some none)
  (g34_Unlike : PySem.W.findIn K (.ref o_Unlike) "__init__" = some (some (.ref bI)))
  (g35_Unlike : PySem.W.findIn K (.ref o_Unlike) "__class__" = some (some (.builtin "object.__class__")))
  (g4_Unlike : PySem.W.subIn K (.ref o_Unlike) (.type "BaseException") = some true)
  (g5_Unlike : PySem.W.typeIn K (.ref o_Unlike) = some (.type "type"))
  (g6_Unlike : PySem.W.keepIn K (.ref o_Unlike) = true)
  (g7_Unlike : PySem.W.mroIn K o_Unlike (.ref bD) = some true)
  (g8_Unlike : PySem.W.ks_superIn K o_Unlike bD "__init__" = some (some (.builtin "ValueError.__init__")))
  (g9_Unlike : PySem.W.subIn K (.ref o_Unlike) (.type "ValueError") = some true)
  (ga_Unlike : PySem.W.hasDictIn K o_Unlike = true)
  (gb_Unlike : PySem.W.isClsIn K o_Unlike = true)
  (gc_Unlike : PySem.W.subIn K (.ref o_Unlike) (.ref bD) = some true)
  (ge_Unlike : PySem.W.mroIn K o_Unlike (.type "object") = some true)
  (gd_Unlike : PySem.W.kitOne K (.type "NoneType") (.ref o_Unlike) = some false)
  (q_InvalidBoard_InvalidBoard : PySem.W.kitOne K (.ref o_InvalidBoard) (.ref o_InvalidBoard) = some (("InvalidBoard" : Str) == "InvalidBoard"))
  (q_InvalidBoard_InvalidBox : PySem.W.kitOne K (.ref o_InvalidBoard) (.ref o_InvalidBox) = some (("InvalidBoard" : Str) == "InvalidBox"))
  (q_InvalidBoard_InvalidList : PySem.W.kitOne K (.ref o_InvalidBoard) (.ref o_InvalidList) = some (("InvalidBoard" : Str) == "InvalidList"))
  (q_InvalidBoard_InvalidNumber : PySem.W.kitOne K (.ref o_InvalidBoard) (.ref o_InvalidNumber) = some (("InvalidBoard" : Str) == "InvalidNumber"))
  (q_InvalidBoard_InvalidOrder : PySem.W.kitOne K (.ref o_InvalidBoard) (.ref o_InvalidOrder) = some (("InvalidBoard" : Str) == "InvalidOrder"))
  (q_InvalidBoard_InvalidShape : PySem.W.kitOne K (.ref o_InvalidBoard) (.ref o_InvalidShape) = some (("InvalidBoard" : Str) == "InvalidShape"))
  (q_InvalidBoard_InvalidWord : PySem.W.kitOne K (.ref o_InvalidBoard) (.ref o_InvalidWord) = some (("InvalidBoard" : Str) == "InvalidWord"))
  (q_InvalidBoard_TooMany : PySem.W.kitOne K (.ref o_InvalidBoard) (.ref o_TooMany) = some (("InvalidBoard" : Str) == "TooMany"))
  (q_InvalidBoard_Unlike : PySem.W.kitOne K (.ref o_InvalidBoard) (.ref o_Unlike) = some (("InvalidBoard" : Str) == "Unlike"))
  (q_InvalidBox_InvalidBoard : PySem.W.kitOne K (.ref o_InvalidBox) (.ref o_InvalidBoard) = some (("InvalidBox" : Str) == "InvalidBoard"))
  (q_InvalidBox_InvalidBox : PySem.W.kitOne K (.ref o_InvalidBox) (.ref o_InvalidBox) = some (("InvalidBox" : Str) == "InvalidBox"))
  (q_InvalidBox_InvalidList : PySem.W.kitOne K (.ref o_InvalidBox) (.ref o_InvalidList) = some (("InvalidBox" : Str) == "InvalidList"))
  (q_InvalidBox_InvalidNumber : PySem.W.kitOne K (.ref o_InvalidBox) (.ref o_InvalidNumber) = some (("InvalidBox" : Str) == "InvalidNumber"))
  (q_InvalidBox_InvalidOrder : PySem.W.kitOne K (.ref o_InvalidBox) (.ref o_InvalidOrder) = some (("InvalidBox" : Str) == "InvalidOrder"))
  (q_InvalidBox_InvalidShape : PySem.W.kitOne K (.ref o_InvalidBox) (.ref o_InvalidShape) = some (("InvalidBox" : Str) == "InvalidShape"))
  (q_InvalidBox_InvalidWord : PySem.W.kitOne K (.ref o_InvalidBox) (.ref o_InvalidWord) = some (("InvalidBox" : Str) == "InvalidWord"))
  (q_InvalidBox_TooMany : PySem.W.kitOne K (.ref o_InvalidBox) (.ref o_TooMany) = some (("InvalidBox" : Str) == "TooMany"))
  (q_InvalidBox_Unlike : PySem.W.kitOne K (.ref o_InvalidBox) (.ref o_Unlike) = some (("InvalidBox" : Str) == "Unlike"))
  (q_InvalidList_InvalidBoard : PySem.W.kitOne K (.ref o_InvalidList) (.ref o_InvalidBoard) = some (("InvalidList" : Str) == "InvalidBoard"))
  (q_InvalidList_InvalidBox : PySem.W.kitOne K (.ref o_InvalidList) (.ref o_InvalidBox) = some (("InvalidList" : Str) == "InvalidBox"))
  (q_InvalidList_InvalidList : PySem.W.kitOne K (.ref o_InvalidList) (.ref o_InvalidList) = some (("InvalidList" : Str) == "InvalidList"))
  (q_InvalidList_InvalidNumber : PySem.W.kitOne K (.ref o_InvalidList) (.ref o_InvalidNumber) = some (("InvalidList" : Str) == "InvalidNumber"))
  (q_InvalidList_InvalidOrder : PySem.W.kitOne K (.ref o_InvalidList) (.ref o_InvalidOrder) = some (("InvalidList" : Str) == "InvalidOrder"))
  (q_InvalidList_InvalidShape : PySem.W.kitOne K (.ref o_InvalidList) (.ref o_InvalidShape) = some (("InvalidList" : Str) == "InvalidShape"))
  (q_InvalidList_InvalidWord : PySem.W.kitOne K (.ref o_InvalidList) (.ref o_InvalidWord) = some (("InvalidList" : Str) == "InvalidWord"))
  (q_InvalidList_TooMany : PySem.W.kitOne K (.ref o_InvalidList) (.ref o_TooMany) = some (("InvalidList" : Str) == "TooMany"))
  (q_InvalidList_Unlike : PySem.W.kitOne K (.ref o_InvalidList) (.ref o_Unlike) = some (("InvalidList" : Str) == "Unlike"))
  (q_InvalidNumber_InvalidBoard : PySem.W.kitOne K (.ref o_InvalidNumber) (.ref o_InvalidBoard) = some (("InvalidNumber" : Str) == "InvalidBoard"))
  (q_InvalidNumber_InvalidBox : PySem.W.kitOne K (.ref o_InvalidNumber) (.ref o_InvalidBox) = some (("InvalidNumber" : Str) == "InvalidBox"))
  (q_InvalidNumber_InvalidList : PySem.W.kitOne K (.ref o_InvalidNumber) (.ref o_InvalidList) = some (("InvalidNumber" : Str) == "InvalidList"))
  (q_InvalidNumber_InvalidNumber : PySem.W.kitOne K (.ref o_InvalidNumber) (.ref o_InvalidNumber) = some (("InvalidNumber" : Str) == "InvalidNumber"))
  (q_InvalidNumber_InvalidOrder : PySem.W.kitOne K (.ref o_InvalidNumber) (.ref o_InvalidOrder) = some (("InvalidNumber" : Str) == "InvalidOrder"))
  (q_InvalidNumber_InvalidShape : PySem.W.kitOne K (.ref o_InvalidNumber) (.ref o_InvalidShape) = some (("InvalidNumber" : Str) == "InvalidShape"))
  (q_InvalidNumber_InvalidWord : PySem.W.kitOne K (.ref o_InvalidNumber) (.ref o_InvalidWord) = some (("InvalidNumber" : Str) == "InvalidWord"))
  (q_InvalidNumber_TooMany : PySem.W.kitOne K (.ref o_InvalidNumber) (.ref o_TooMany) = some (("InvalidNumber" : Str) == "TooMany"))
  (q_InvalidNumber_Unlike : PySem.W.kitOne K (.ref o_InvalidNumber) (.ref o_Unlike) = some (("InvalidNumber" : Str) == "Unlike"))
  (q_InvalidOrder_InvalidBoard : PySem.W.kitOne K (.ref o_InvalidOrder) (.ref o_InvalidBoard) = some (("InvalidOrder" : Str) == "InvalidBoard"))
  (q_InvalidOrder_InvalidBox : PySem.W.kitOne K (.ref o_InvalidOrder) (.ref o_InvalidBox) = some (("InvalidOrder" : Str) == "InvalidBox"))
  (q_InvalidOrder_InvalidList : PySem.W.kitOne K (.ref o_InvalidOrder) (.ref o_InvalidList) = some (("InvalidOrder" : Str) == "InvalidList"))
  (q_InvalidOrder_InvalidNumber : PySem.W.kitOne K (.ref o_InvalidOrder) (.ref o_InvalidNumber) = some (("InvalidOrder" : Str) == "InvalidNumber"))
  (q_InvalidOrder_InvalidOrder : PySem.W.kitOne K (.ref o_InvalidOrder) (.ref o_InvalidOrder) = some (("InvalidOrder" : Str) == "InvalidOrder"))
  (q_InvalidOrder_InvalidShape : PySem.W.kitOne K (.ref o_InvalidOrder) (.ref o_InvalidShape) = some (("InvalidOrder" : Str) == "InvalidShape"))
  (q_InvalidOrder_InvalidWord : PySem.W.kitOne K (.ref o_InvalidOrder) (.ref o_InvalidWord) = some (("InvalidOrder" : Str) == "InvalidWord"))
  (q_InvalidOrder_TooMany : PySem.W.kitOne K (.ref o_InvalidOrder) (.ref o_TooMany) = some (("InvalidOrder" : Str) == "TooMany"))
  (q_InvalidOrder_Unlike : PySem.W.kitOne K (.ref o_InvalidOrder) (.ref o_Unlike) = some (("InvalidOrder" : Str) == "Unlike"))
  (q_InvalidShape_InvalidBoard : PySem.W.kitOne K (.ref o_InvalidShape) (.ref o_InvalidBoard) = some (("InvalidShape" : Str) == "InvalidBoard"))
  (q_InvalidShape_InvalidBox : PySem.W.kitOne K (.ref o_InvalidShape) (.ref o_InvalidBox) = some (("InvalidShape" : Str) == "InvalidBox"))
  (q_InvalidShape_InvalidList : PySem.W.kitOne K (.ref o_InvalidShape) (.ref o_InvalidList) = some (("InvalidShape" : Str) == "InvalidList"))
  (q_InvalidShape_InvalidNumber : PySem.W.kitOne K (.ref o_InvalidShape) (.ref o_InvalidNumber) = some (("InvalidShape" : Str) == "InvalidNumber"))
  (q_InvalidShape_InvalidOrder : PySem.W.kitOne K (.ref o_InvalidShape) (.ref o_InvalidOrder) = some (("InvalidShape" : Str) == "InvalidOrder"))
  (q_InvalidShape_InvalidShape : PySem.W.kitOne K (.ref o_InvalidShape) (.ref o_InvalidShape) = some (("InvalidShape" : Str) == "InvalidShape"))
  (q_InvalidShape_InvalidWord : PySem.W.kitOne K (.ref o_InvalidShape) (.ref o_InvalidWord) = some (("InvalidShape" : Str) == "InvalidWord"))
  (q_InvalidShape_TooMany : PySem.W.kitOne K (.ref o_InvalidShape) (.ref o_TooMany) = some (("InvalidShape" : Str) == "TooMany"))
  (q_InvalidShape_Unlike : PySem.W.kitOne K (.ref o_InvalidShape) (.ref o_Unlike) = some (("InvalidShape" : Str) == "Unlike"))
  (q_InvalidWord_InvalidBoard : PySem.W.kitOne K (.ref o_InvalidWord) (.ref o_InvalidBoard) = some (("InvalidWord" : Str) == "InvalidBoard"))
  (q_InvalidWord_InvalidBox : PySem.W.kitOne K (.ref o_InvalidWord) (.ref o_InvalidBox) = some (("InvalidWord" : Str) == "InvalidBox"))
  (q_InvalidWord_InvalidList : PySem.W.kitOne K (.ref o_InvalidWord) (.ref o_InvalidList) = some (("InvalidWord" : Str) == "InvalidList"))
  (q_InvalidWord_InvalidNumber : PySem.W.kitOne K (.ref o_InvalidWord) (.ref o_InvalidNumber) = some (("InvalidWord" : Str) == "InvalidNumber"))
  (q_InvalidWord_InvalidOrder : PySem.W.kitOne K (.ref o_InvalidWord) (.ref o_InvalidOrder) = some (("InvalidWord" : Str) == "InvalidOrder"))
  (q_InvalidWord_InvalidShape : PySem.W.kitOne K (.ref o_InvalidWord) (.ref o_InvalidShape) = some (("InvalidWord" : Str) == "InvalidShape"))
  (q_InvalidWord_InvalidWord : PySem.W.kitOne K (.ref o_InvalidWord) (.ref o_InvalidWord) = some (("InvalidWord" : Str) == "InvalidWord"))
  (q_InvalidWord_TooMany : PySem.W.kitOne K (.ref o_InvalidWord) (.ref o_TooMany) = some (("InvalidWord" : Str) == "TooMany"))
  (q_InvalidWord_Unlike : PySem.W.kitOne K (.ref o_InvalidWord) (.ref o_Unlike) = some (("InvalidWord" : Str) == "Unlike"))
  (q_TooMany_InvalidBoard : PySem.W.kitOne K (.ref o_TooMany) (.ref o_InvalidBoard) = some (("TooMany" : Str) == "InvalidBoard"))
  (q_TooMany_InvalidBox : PySem.W.kitOne K (.ref o_TooMany) (.ref o_InvalidBox) = some (("TooMany" : Str) == "InvalidBox"))
  (q_TooMany_InvalidList : PySem.W.kitOne K (.ref o_TooMany) (.ref o_InvalidList) = some (("TooMany" : Str) == "InvalidList"))
  (q_TooMany_InvalidNumber : PySem.W.kitOne K (.ref o_TooMany) (.ref o_InvalidNumber) = some (("TooMany" : Str) == "InvalidNumber"))
  (q_TooMany_InvalidOrder : PySem.W.kitOne K (.ref o_TooMany) (.ref o_InvalidOrder) = some (("TooMany" : Str) == "InvalidOrder"))
  (q_TooMany_InvalidShape : PySem.W.kitOne K (.ref o_TooMany) (.ref o_InvalidShape) = some (("TooMany" : Str) == "InvalidShape"))
  (q_TooMany_InvalidWord : PySem.W.kitOne K (.ref o_TooMany) (.ref o_InvalidWord) = some (("TooMany" : Str) == "InvalidWord"))
  (q_TooMany_TooMany : PySem.W.kitOne K (.ref o_TooMany) (.ref o_TooMany) = some (("TooMany" : Str) == "TooMany"))
  (q_TooMany_Unlike : PySem.W.kitOne K (.ref o_TooMany) (.ref o_Unlike) = some (("TooMany" : Str) == "Unlike"))
  (q_Unlike_InvalidBoard : PySem.W.kitOne K (.ref o_Unlike) (.ref o_InvalidBoard) = some (("Unlike" : Str) == "InvalidBoard"))
  (q_Unlike_InvalidBox : PySem.W.kitOne K (.ref o_Unlike) (.ref o_InvalidBox) = some (("Unlike" : Str) == "InvalidBox"))
  (q_Unlike_InvalidList : PySem.W.kitOne K (.ref o_Unlike) (.ref o_InvalidList) = some (("Unlike" : Str) == "InvalidList"))
  (q_Unlike_InvalidNumber : PySem.W.kitOne K (.ref o_Unlike) (.ref o_InvalidNumber) = some (("Unlike" : Str) == "InvalidNumber"))
  (q_Unlike_InvalidOrder : PySem.W.kitOne K (.ref o_Unlike) (.ref o_InvalidOrder) = some (("Unlike" : Str) == "InvalidOrder"))
  (q_Unlike_InvalidShape : PySem.W.kitOne K (.ref o_Unlike) (.ref o_InvalidShape) = some (("Unlike" : Str) == "InvalidShape"))
  (q_Unlike_InvalidWord : PySem.W.kitOne K (.ref o_Unlike) (.ref o_InvalidWord) = some (("Unlike" : Str) == "InvalidWord"))
  (q_Unlike_TooMany : PySem.W.kitOne K (.ref o_Unlike) (.ref o_TooMany) = some (("Unlike" : Str) == "TooMany"))
  (q_Unlike_Unlike : PySem.W.kitOne K (.ref o_Unlike) (.ref o_Unlike) = some (("Unlike" : Str) == "Unlike")) :
  Nonempty (LawT P w K mg 13 "script" fa h F_law) := by
  have e := hfa.symm.trans (PySem.W.mg_of X G a30)
  cases e
  have T : Txt P w K mg ⟨f0, (PySem.W.fnOf "is_whole" "is_whole" (defArgs s_is_whole) (defBody s_is_whole) (defScope s_is_whole) .none kV0 dc0 pm0 an0 cd0 ct0), f1, (PySem.W.fnOf "is_count" "is_count" (defArgs s_is_count) (defBody s_is_count) (defScope s_is_count) .none kV1 dc1 pm1 an1 cd1 ct1), f2, (PySem.W.fnOf "is_letter" "is_letter" (defArgs s_is_letter) (defBody s_is_letter) (defScope s_is_letter) .none kV2 dc2 pm2 an2 cd2 ct2), f3, (PySem.W.fnOf "is_word_by" "is_word_by" (defArgs s_is_word_by) (defBody s_is_word_by) (defScope s_is_word_by) .none kV3 dc3 pm3 an3 cd3 ct3), f4, (PySem.W.fnOf "is_order_by" "is_order_by" (defArgs s_is_order_by) (defBody s_is_order_by) (defScope s_is_order_by) .none kV4 dc4 pm4 an4 cd4 ct4), f5, (PySem.W.fnOf "check_order" "check_order" (defArgs s_check_order) (defBody s_check_order) (defScope s_check_order) .none kV5 dc5 pm5 an5 cd5 ct5), f6, (PySem.W.fnOf "whole_product" "whole_product" (defArgs s_whole_product) (defBody s_whole_product) (defScope s_whole_product) .none kV6 dc6 pm6 an6 cd6 ct6), f7, (PySem.W.fnOf "check_size" "check_size" (defArgs s_check_size) (defBody s_check_size) (defScope s_check_size) .none kV7 dc7 pm7 an7 cd7 ct7), f8, (PySem.W.fnOf "code_by" "code_by" (defArgs s_code_by) (defBody s_code_by) (defScope s_code_by) .none kV8 dc8 pm8 an8 cd8 ct8), f9, (PySem.W.fnOf "order_with" "order_with" (defArgs s_order_with) (defBody s_order_with) (defScope s_order_with) .none kV9 dc9 pm9 an9 cd9 ct9), f10, (PySem.W.fnOf "order_position" "order_position" (defArgs s_order_position) (defBody s_order_position) (defScope s_order_position) .none kV10 dc10 pm10 an10 cd10 ct10), f11, (PySem.W.fnOf "order_at" "order_at" (defArgs s_order_at) (defBody s_order_at) (defScope s_order_at) .none kV11 dc11 pm11 an11 cd11 ct11), f12, (PySem.W.fnOf "_law_hash" "_law_hash" (defArgs s__law_hash) (defBody s__law_hash) (defScope s__law_hash) .none kV12 dc12 pm12 an12 cd12 ct12), f13, (PySem.W.fnOf "_law_random" "_law_random" (defArgs s__law_random) (defBody s__law_random) (defScope s__law_random) .none kV13 dc13 pm13 an13 cd13 ct13), f14, (PySem.W.fnOf "_law_cell" "_law_cell" (defArgs s__law_cell) (defBody s__law_cell) (defScope s__law_cell) .none kV14 dc14 pm14 an14 cd14 ct14), f15, (PySem.W.fnOf "_law_generator" "_law_generator" (defArgs s__law_generator) (defBody s__law_generator) (defScope s__law_generator) .none kV15 dc15 pm15 an15 cd15 ct15), f16, (PySem.W.fnOf "_law_exact" "_law_exact" (defArgs s__law_exact) (defBody s__law_exact) (defScope s__law_exact) .none kV16 dc16 pm16 an16 cd16 ct16), f17, (PySem.W.fnOf "_law_order" "_law_order" (defArgs s__law_order) (defBody s__law_order) (defScope s__law_order) .none kV17 dc17 pm17 an17 cd17 ct17), f18, (PySem.W.fnOf "_law_marked" "_law_marked" (defArgs s__law_marked) (defBody s__law_marked) (defScope s__law_marked) .none kV18 dc18 pm18 an18 cd18 ct18), f19, (PySem.W.fnOf "_law_caught" "_law_caught" (defArgs s__law_caught) (defBody s__law_caught) (defScope s__law_caught) .none kV19 dc19 pm19 an19 cd19 ct19), f20, (PySem.W.fnOf "_law_all_caught" "_law_all_caught" (defArgs s__law_all_caught) (defBody s__law_all_caught) (defScope s__law_all_caught) .none kV20 dc20 pm20 an20 cd20 ct20), f21, (PySem.W.fnOf "_law_bad_words" "_law_bad_words" (defArgs s__law_bad_words) (defBody s__law_bad_words) (defScope s__law_bad_words) .none kV21 dc21 pm21 an21 cd21 ct21), f22, (PySem.W.fnOf "_law_drawn" "_law_drawn" (defArgs s__law_drawn) (defBody s__law_drawn) (defScope s__law_drawn) .none kV22 dc22 pm22 an22 cd22 ct22), f23, (PySem.W.fnOf "_law_product" "_law_product" (defArgs s__law_product) (defBody s__law_product) (defScope s__law_product) .none kV23 dc23 pm23 an23 cd23 ct23), f24, (PySem.W.fnOf "_law_factorial" "_law_factorial" (defArgs s__law_factorial) (defBody s__law_factorial) (defScope s__law_factorial) .none kV24 dc24 pm24 an24 cd24 ct24), f25, (PySem.W.fnOf "_law_code" "_law_code" (defArgs s__law_code) (defBody s__law_code) (defScope s__law_code) .none kV25 dc25 pm25 an25 cd25 ct25), f26, (PySem.W.fnOf "_law_bad_orders" "_law_bad_orders" (defArgs s__law_bad_orders) (defBody s__law_bad_orders) (defScope s__law_bad_orders) .none kV26 dc26 pm26 an26 cd26 ct26), f27, (PySem.W.fnOf "_law_position" "_law_position" (defArgs s__law_position) (defBody s__law_position) (defScope s__law_position) .none kV27 dc27 pm27 an27 cd27 ct27), f28, (PySem.W.fnOf "_law_all" "_law_all" (defArgs s__law_all) (defBody s__law_all) (defScope s__law_all) .none kV28 dc28 pm28 an28 cd28 ct28), f29, (PySem.W.fnOf "_law_right" "_law_right" (defArgs s__law_right) (defBody s__law_right) (defScope s__law_right) .none kV29 dc29 pm29 an29 (.ref kk29) ct29), fa, (PySem.W.fnOf "law" "law" (defArgs s_law) (defBody s_law) (defScope s_law) .none kV30 dc30 pm30 an30 cd30 ct30), kk29, kp29, bD, bI, o_InvalidBoard, o_InvalidBox, o_InvalidList, o_InvalidNumber, o_InvalidOrder, o_InvalidShape, o_InvalidWord, o_TooMany, o_Unlike⟩ := {
    g_is_whole := PySem.W.mg_of X G a0
    F_is_whole := fun_mk (st := s_is_whole) l0 c0 k0
    g_is_count := PySem.W.mg_of X G a1
    F_is_count := fun_mk (st := s_is_count) l1 c1 k1
    g_is_letter := PySem.W.mg_of X G a2
    F_is_letter := fun_mk (st := s_is_letter) l2 c2 k2
    g_is_word_by := PySem.W.mg_of X G a3
    F_is_word_by := fun_mk (st := s_is_word_by) l3 c3 k3
    g_is_order_by := PySem.W.mg_of X G a4
    F_is_order_by := fun_mk (st := s_is_order_by) l4 c4 k4
    g_check_order := PySem.W.mg_of X G a5
    F_check_order := fun_mk (st := s_check_order) l5 c5 k5
    g_whole_product := PySem.W.mg_of X G a6
    F_whole_product := fun_mk (st := s_whole_product) l6 c6 k6
    g_check_size := PySem.W.mg_of X G a7
    F_check_size := fun_mk (st := s_check_size) l7 c7 k7
    g_code_by := PySem.W.mg_of X G a8
    F_code_by := fun_mk (st := s_code_by) l8 c8 k8
    g_order_with := PySem.W.mg_of X G a9
    F_order_with := fun_mk (st := s_order_with) l9 c9 k9
    g_order_position := PySem.W.mg_of X G a10
    F_order_position := fun_mk (st := s_order_position) l10 c10 k10
    g_order_at := PySem.W.mg_of X G a11
    F_order_at := fun_mk (st := s_order_at) l11 c11 k11
    g__law_hash := PySem.W.mg_of X G a12
    F__law_hash := fun_mk (st := s__law_hash) l12 c12 k12
    g__law_random := PySem.W.mg_of X G a13
    F__law_random := fun_mk (st := s__law_random) l13 c13 k13
    g__law_cell := PySem.W.mg_of X G a14
    F__law_cell := fun_mk (st := s__law_cell) l14 c14 k14
    g__law_generator := PySem.W.mg_of X G a15
    F__law_generator := fun_mk (st := s__law_generator) l15 c15 k15
    g__law_exact := PySem.W.mg_of X G a16
    F__law_exact := fun_mk (st := s__law_exact) l16 c16 k16
    g__law_order := PySem.W.mg_of X G a17
    F__law_order := fun_mk (st := s__law_order) l17 c17 k17
    g__law_marked := PySem.W.mg_of X G a18
    F__law_marked := fun_mk (st := s__law_marked) l18 c18 k18
    g__law_caught := PySem.W.mg_of X G a19
    F__law_caught := fun_mk (st := s__law_caught) l19 c19 k19
    g__law_all_caught := PySem.W.mg_of X G a20
    F__law_all_caught := fun_mk (st := s__law_all_caught) l20 c20 k20
    g__law_bad_words := PySem.W.mg_of X G a21
    F__law_bad_words := fun_mk (st := s__law_bad_words) l21 c21 k21
    g__law_drawn := PySem.W.mg_of X G a22
    F__law_drawn := fun_mk (st := s__law_drawn) l22 c22 k22
    g__law_product := PySem.W.mg_of X G a23
    F__law_product := fun_mk (st := s__law_product) l23 c23 k23
    g__law_factorial := PySem.W.mg_of X G a24
    F__law_factorial := fun_mk (st := s__law_factorial) l24 c24 k24
    g__law_code := PySem.W.mg_of X G a25
    F__law_code := fun_mk (st := s__law_code) l25 c25 k25
    g__law_bad_orders := PySem.W.mg_of X G a26
    F__law_bad_orders := fun_mk (st := s__law_bad_orders) l26 c26 k26
    g__law_position := PySem.W.mg_of X G a27
    F__law_position := fun_mk (st := s__law_position) l27 c27 k27
    g__law_all := PySem.W.mg_of X G a28
    F__law_all := fun_mk (st := s__law_all) l28 c28 k28
    g__law_right := PySem.W.mg_of X G a29
    F__law_right := fun_mk (st := s__law_right) l29 c29 k29
    g_law := PySem.W.mg_of X G a30
    F_law := fun_mk (st := s_law) l30 c30 k30
    C__law_right := rfl
    b_all := PySem.W.mg_none_of X G z_all
    b_any := PySem.W.mg_none_of X G z_any
    b_bool := PySem.W.mg_none_of X G z_bool
    b_enumerate := PySem.W.mg_none_of X G z_enumerate
    b_int := PySem.W.mg_none_of X G z_int
    b_isinstance := PySem.W.mg_none_of X G z_isinstance
    b_len := PySem.W.mg_none_of X G z_len
    b_list := PySem.W.mg_none_of X G z_list
    b_max := PySem.W.mg_none_of X G z_max
    b_range := PySem.W.mg_none_of X G z_range
    b_repr := PySem.W.mg_none_of X G z_repr
    b_sorted := PySem.W.mg_none_of X G z_sorted
    b_sum := PySem.W.mg_none_of X G z_sum
    b_tuple := PySem.W.mg_none_of X G z_tuple
    c_MOST_LENGTH := ⟨_, PySem.W.mg_of X G m_MOST_LENGTH, _, rfl⟩
    c_MOST_LETTER := ⟨_, PySem.W.mg_of X G m_MOST_LETTER, _, rfl⟩
    box := ⟨⟨xoc, xod, xT, xoT, xnT, xkV, xdoc, xpm, xan, xcda, xct, xosl, xcc, _, _, _, xccl, xcdd, xvs, xccs, xfile, xtf, xcl, xcld, xcsl, x1, x2, x3, x4, x5, x6, x7, x8⟩, Option.isSome_iff_exists.mp x9, x10, x11, x12, x13⟩
    k_BoxError := PySem.W.mg_of X G hD
    k_InvalidBoard := PySem.W.mg_of X G g_InvalidBoard
    kt_InvalidBoard := ⟨⟨⟨_, _, _, _, _, _, _, _, _, _, _, _, _, _, _, g1_InvalidBoard, g2_InvalidBoard⟩, g30_InvalidBoard, g4_InvalidBoard, g5_InvalidBoard, g6_InvalidBoard⟩, g31_InvalidBoard, g32_InvalidBoard, g33_InvalidBoard, g34_InvalidBoard, g7_InvalidBoard, g8_InvalidBoard, g9_InvalidBoard, ga_InvalidBoard, gb_InvalidBoard, PySem.W.exm_ref x14 x15 x16 gc_InvalidBoard⟩
    nk_InvalidBoard := gd_InvalidBoard
    ec_InvalidBoard := ⟨g31_InvalidBoard, g32_InvalidBoard, g4_InvalidBoard, ga_InvalidBoard, g35_InvalidBoard, x17, x18, ge_InvalidBoard⟩
    k_InvalidBox := PySem.W.mg_of X G g_InvalidBox
    kt_InvalidBox := ⟨⟨⟨_, _, _, _, _, _, _, _, _, _, _, _, _, _, _, g1_InvalidBox, g2_InvalidBox⟩, g30_InvalidBox, g4_InvalidBox, g5_InvalidBox, g6_InvalidBox⟩, g31_InvalidBox, g32_InvalidBox, g33_InvalidBox, g34_InvalidBox, g7_InvalidBox, g8_InvalidBox, g9_InvalidBox, ga_InvalidBox, gb_InvalidBox, PySem.W.exm_ref x14 x15 x16 gc_InvalidBox⟩
    nk_InvalidBox := gd_InvalidBox
    ec_InvalidBox := ⟨g31_InvalidBox, g32_InvalidBox, g4_InvalidBox, ga_InvalidBox, g35_InvalidBox, x17, x18, ge_InvalidBox⟩
    k_InvalidList := PySem.W.mg_of X G g_InvalidList
    kt_InvalidList := ⟨⟨⟨_, _, _, _, _, _, _, _, _, _, _, _, _, _, _, g1_InvalidList, g2_InvalidList⟩, g30_InvalidList, g4_InvalidList, g5_InvalidList, g6_InvalidList⟩, g31_InvalidList, g32_InvalidList, g33_InvalidList, g34_InvalidList, g7_InvalidList, g8_InvalidList, g9_InvalidList, ga_InvalidList, gb_InvalidList, PySem.W.exm_ref x14 x15 x16 gc_InvalidList⟩
    nk_InvalidList := gd_InvalidList
    ec_InvalidList := ⟨g31_InvalidList, g32_InvalidList, g4_InvalidList, ga_InvalidList, g35_InvalidList, x17, x18, ge_InvalidList⟩
    k_InvalidNumber := PySem.W.mg_of X G g_InvalidNumber
    kt_InvalidNumber := ⟨⟨⟨_, _, _, _, _, _, _, _, _, _, _, _, _, _, _, g1_InvalidNumber, g2_InvalidNumber⟩, g30_InvalidNumber, g4_InvalidNumber, g5_InvalidNumber, g6_InvalidNumber⟩, g31_InvalidNumber, g32_InvalidNumber, g33_InvalidNumber, g34_InvalidNumber, g7_InvalidNumber, g8_InvalidNumber, g9_InvalidNumber, ga_InvalidNumber, gb_InvalidNumber, PySem.W.exm_ref x14 x15 x16 gc_InvalidNumber⟩
    nk_InvalidNumber := gd_InvalidNumber
    ec_InvalidNumber := ⟨g31_InvalidNumber, g32_InvalidNumber, g4_InvalidNumber, ga_InvalidNumber, g35_InvalidNumber, x17, x18, ge_InvalidNumber⟩
    k_InvalidOrder := PySem.W.mg_of X G g_InvalidOrder
    kt_InvalidOrder := ⟨⟨⟨_, _, _, _, _, _, _, _, _, _, _, _, _, _, _, g1_InvalidOrder, g2_InvalidOrder⟩, g30_InvalidOrder, g4_InvalidOrder, g5_InvalidOrder, g6_InvalidOrder⟩, g31_InvalidOrder, g32_InvalidOrder, g33_InvalidOrder, g34_InvalidOrder, g7_InvalidOrder, g8_InvalidOrder, g9_InvalidOrder, ga_InvalidOrder, gb_InvalidOrder, PySem.W.exm_ref x14 x15 x16 gc_InvalidOrder⟩
    nk_InvalidOrder := gd_InvalidOrder
    ec_InvalidOrder := ⟨g31_InvalidOrder, g32_InvalidOrder, g4_InvalidOrder, ga_InvalidOrder, g35_InvalidOrder, x17, x18, ge_InvalidOrder⟩
    k_InvalidShape := PySem.W.mg_of X G g_InvalidShape
    kt_InvalidShape := ⟨⟨⟨_, _, _, _, _, _, _, _, _, _, _, _, _, _, _, g1_InvalidShape, g2_InvalidShape⟩, g30_InvalidShape, g4_InvalidShape, g5_InvalidShape, g6_InvalidShape⟩, g31_InvalidShape, g32_InvalidShape, g33_InvalidShape, g34_InvalidShape, g7_InvalidShape, g8_InvalidShape, g9_InvalidShape, ga_InvalidShape, gb_InvalidShape, PySem.W.exm_ref x14 x15 x16 gc_InvalidShape⟩
    nk_InvalidShape := gd_InvalidShape
    ec_InvalidShape := ⟨g31_InvalidShape, g32_InvalidShape, g4_InvalidShape, ga_InvalidShape, g35_InvalidShape, x17, x18, ge_InvalidShape⟩
    k_InvalidWord := PySem.W.mg_of X G g_InvalidWord
    kt_InvalidWord := ⟨⟨⟨_, _, _, _, _, _, _, _, _, _, _, _, _, _, _, g1_InvalidWord, g2_InvalidWord⟩, g30_InvalidWord, g4_InvalidWord, g5_InvalidWord, g6_InvalidWord⟩, g31_InvalidWord, g32_InvalidWord, g33_InvalidWord, g34_InvalidWord, g7_InvalidWord, g8_InvalidWord, g9_InvalidWord, ga_InvalidWord, gb_InvalidWord, PySem.W.exm_ref x14 x15 x16 gc_InvalidWord⟩
    nk_InvalidWord := gd_InvalidWord
    ec_InvalidWord := ⟨g31_InvalidWord, g32_InvalidWord, g4_InvalidWord, ga_InvalidWord, g35_InvalidWord, x17, x18, ge_InvalidWord⟩
    k_TooMany := PySem.W.mg_of X G g_TooMany
    kt_TooMany := ⟨⟨⟨_, _, _, _, _, _, _, _, _, _, _, _, _, _, _, g1_TooMany, g2_TooMany⟩, g30_TooMany, g4_TooMany, g5_TooMany, g6_TooMany⟩, g31_TooMany, g32_TooMany, g33_TooMany, g34_TooMany, g7_TooMany, g8_TooMany, g9_TooMany, ga_TooMany, gb_TooMany, PySem.W.exm_ref x14 x15 x16 gc_TooMany⟩
    nk_TooMany := gd_TooMany
    ec_TooMany := ⟨g31_TooMany, g32_TooMany, g4_TooMany, ga_TooMany, g35_TooMany, x17, x18, ge_TooMany⟩
    k_Unlike := PySem.W.mg_of X G g_Unlike
    kt_Unlike := ⟨⟨⟨_, _, _, _, _, _, _, _, _, _, _, _, _, _, _, g1_Unlike, g2_Unlike⟩, g30_Unlike, g4_Unlike, g5_Unlike, g6_Unlike⟩, g31_Unlike, g32_Unlike, g33_Unlike, g34_Unlike, g7_Unlike, g8_Unlike, g9_Unlike, ga_Unlike, gb_Unlike, PySem.W.exm_ref x14 x15 x16 gc_Unlike⟩
    nk_Unlike := gd_Unlike
    ec_Unlike := ⟨g31_Unlike, g32_Unlike, g4_Unlike, ga_Unlike, g35_Unlike, x17, x18, ge_Unlike⟩
    q_InvalidBoard_InvalidBoard := q_InvalidBoard_InvalidBoard
    q_InvalidBoard_InvalidBox := q_InvalidBoard_InvalidBox
    q_InvalidBoard_InvalidList := q_InvalidBoard_InvalidList
    q_InvalidBoard_InvalidNumber := q_InvalidBoard_InvalidNumber
    q_InvalidBoard_InvalidOrder := q_InvalidBoard_InvalidOrder
    q_InvalidBoard_InvalidShape := q_InvalidBoard_InvalidShape
    q_InvalidBoard_InvalidWord := q_InvalidBoard_InvalidWord
    q_InvalidBoard_TooMany := q_InvalidBoard_TooMany
    q_InvalidBoard_Unlike := q_InvalidBoard_Unlike
    q_InvalidBox_InvalidBoard := q_InvalidBox_InvalidBoard
    q_InvalidBox_InvalidBox := q_InvalidBox_InvalidBox
    q_InvalidBox_InvalidList := q_InvalidBox_InvalidList
    q_InvalidBox_InvalidNumber := q_InvalidBox_InvalidNumber
    q_InvalidBox_InvalidOrder := q_InvalidBox_InvalidOrder
    q_InvalidBox_InvalidShape := q_InvalidBox_InvalidShape
    q_InvalidBox_InvalidWord := q_InvalidBox_InvalidWord
    q_InvalidBox_TooMany := q_InvalidBox_TooMany
    q_InvalidBox_Unlike := q_InvalidBox_Unlike
    q_InvalidList_InvalidBoard := q_InvalidList_InvalidBoard
    q_InvalidList_InvalidBox := q_InvalidList_InvalidBox
    q_InvalidList_InvalidList := q_InvalidList_InvalidList
    q_InvalidList_InvalidNumber := q_InvalidList_InvalidNumber
    q_InvalidList_InvalidOrder := q_InvalidList_InvalidOrder
    q_InvalidList_InvalidShape := q_InvalidList_InvalidShape
    q_InvalidList_InvalidWord := q_InvalidList_InvalidWord
    q_InvalidList_TooMany := q_InvalidList_TooMany
    q_InvalidList_Unlike := q_InvalidList_Unlike
    q_InvalidNumber_InvalidBoard := q_InvalidNumber_InvalidBoard
    q_InvalidNumber_InvalidBox := q_InvalidNumber_InvalidBox
    q_InvalidNumber_InvalidList := q_InvalidNumber_InvalidList
    q_InvalidNumber_InvalidNumber := q_InvalidNumber_InvalidNumber
    q_InvalidNumber_InvalidOrder := q_InvalidNumber_InvalidOrder
    q_InvalidNumber_InvalidShape := q_InvalidNumber_InvalidShape
    q_InvalidNumber_InvalidWord := q_InvalidNumber_InvalidWord
    q_InvalidNumber_TooMany := q_InvalidNumber_TooMany
    q_InvalidNumber_Unlike := q_InvalidNumber_Unlike
    q_InvalidOrder_InvalidBoard := q_InvalidOrder_InvalidBoard
    q_InvalidOrder_InvalidBox := q_InvalidOrder_InvalidBox
    q_InvalidOrder_InvalidList := q_InvalidOrder_InvalidList
    q_InvalidOrder_InvalidNumber := q_InvalidOrder_InvalidNumber
    q_InvalidOrder_InvalidOrder := q_InvalidOrder_InvalidOrder
    q_InvalidOrder_InvalidShape := q_InvalidOrder_InvalidShape
    q_InvalidOrder_InvalidWord := q_InvalidOrder_InvalidWord
    q_InvalidOrder_TooMany := q_InvalidOrder_TooMany
    q_InvalidOrder_Unlike := q_InvalidOrder_Unlike
    q_InvalidShape_InvalidBoard := q_InvalidShape_InvalidBoard
    q_InvalidShape_InvalidBox := q_InvalidShape_InvalidBox
    q_InvalidShape_InvalidList := q_InvalidShape_InvalidList
    q_InvalidShape_InvalidNumber := q_InvalidShape_InvalidNumber
    q_InvalidShape_InvalidOrder := q_InvalidShape_InvalidOrder
    q_InvalidShape_InvalidShape := q_InvalidShape_InvalidShape
    q_InvalidShape_InvalidWord := q_InvalidShape_InvalidWord
    q_InvalidShape_TooMany := q_InvalidShape_TooMany
    q_InvalidShape_Unlike := q_InvalidShape_Unlike
    q_InvalidWord_InvalidBoard := q_InvalidWord_InvalidBoard
    q_InvalidWord_InvalidBox := q_InvalidWord_InvalidBox
    q_InvalidWord_InvalidList := q_InvalidWord_InvalidList
    q_InvalidWord_InvalidNumber := q_InvalidWord_InvalidNumber
    q_InvalidWord_InvalidOrder := q_InvalidWord_InvalidOrder
    q_InvalidWord_InvalidShape := q_InvalidWord_InvalidShape
    q_InvalidWord_InvalidWord := q_InvalidWord_InvalidWord
    q_InvalidWord_TooMany := q_InvalidWord_TooMany
    q_InvalidWord_Unlike := q_InvalidWord_Unlike
    q_TooMany_InvalidBoard := q_TooMany_InvalidBoard
    q_TooMany_InvalidBox := q_TooMany_InvalidBox
    q_TooMany_InvalidList := q_TooMany_InvalidList
    q_TooMany_InvalidNumber := q_TooMany_InvalidNumber
    q_TooMany_InvalidOrder := q_TooMany_InvalidOrder
    q_TooMany_InvalidShape := q_TooMany_InvalidShape
    q_TooMany_InvalidWord := q_TooMany_InvalidWord
    q_TooMany_TooMany := q_TooMany_TooMany
    q_TooMany_Unlike := q_TooMany_Unlike
    q_Unlike_InvalidBoard := q_Unlike_InvalidBoard
    q_Unlike_InvalidBox := q_Unlike_InvalidBox
    q_Unlike_InvalidList := q_Unlike_InvalidList
    q_Unlike_InvalidNumber := q_Unlike_InvalidNumber
    q_Unlike_InvalidOrder := q_Unlike_InvalidOrder
    q_Unlike_InvalidShape := q_Unlike_InvalidShape
    q_Unlike_InvalidWord := q_Unlike_InvalidWord
    q_Unlike_TooMany := q_Unlike_TooMany
    q_Unlike_Unlike := q_Unlike_Unlike }
  have TI : TabsIn K h (CS ⟨f0, (PySem.W.fnOf "is_whole" "is_whole" (defArgs s_is_whole) (defBody s_is_whole) (defScope s_is_whole) .none kV0 dc0 pm0 an0 cd0 ct0), f1, (PySem.W.fnOf "is_count" "is_count" (defArgs s_is_count) (defBody s_is_count) (defScope s_is_count) .none kV1 dc1 pm1 an1 cd1 ct1), f2, (PySem.W.fnOf "is_letter" "is_letter" (defArgs s_is_letter) (defBody s_is_letter) (defScope s_is_letter) .none kV2 dc2 pm2 an2 cd2 ct2), f3, (PySem.W.fnOf "is_word_by" "is_word_by" (defArgs s_is_word_by) (defBody s_is_word_by) (defScope s_is_word_by) .none kV3 dc3 pm3 an3 cd3 ct3), f4, (PySem.W.fnOf "is_order_by" "is_order_by" (defArgs s_is_order_by) (defBody s_is_order_by) (defScope s_is_order_by) .none kV4 dc4 pm4 an4 cd4 ct4), f5, (PySem.W.fnOf "check_order" "check_order" (defArgs s_check_order) (defBody s_check_order) (defScope s_check_order) .none kV5 dc5 pm5 an5 cd5 ct5), f6, (PySem.W.fnOf "whole_product" "whole_product" (defArgs s_whole_product) (defBody s_whole_product) (defScope s_whole_product) .none kV6 dc6 pm6 an6 cd6 ct6), f7, (PySem.W.fnOf "check_size" "check_size" (defArgs s_check_size) (defBody s_check_size) (defScope s_check_size) .none kV7 dc7 pm7 an7 cd7 ct7), f8, (PySem.W.fnOf "code_by" "code_by" (defArgs s_code_by) (defBody s_code_by) (defScope s_code_by) .none kV8 dc8 pm8 an8 cd8 ct8), f9, (PySem.W.fnOf "order_with" "order_with" (defArgs s_order_with) (defBody s_order_with) (defScope s_order_with) .none kV9 dc9 pm9 an9 cd9 ct9), f10, (PySem.W.fnOf "order_position" "order_position" (defArgs s_order_position) (defBody s_order_position) (defScope s_order_position) .none kV10 dc10 pm10 an10 cd10 ct10), f11, (PySem.W.fnOf "order_at" "order_at" (defArgs s_order_at) (defBody s_order_at) (defScope s_order_at) .none kV11 dc11 pm11 an11 cd11 ct11), f12, (PySem.W.fnOf "_law_hash" "_law_hash" (defArgs s__law_hash) (defBody s__law_hash) (defScope s__law_hash) .none kV12 dc12 pm12 an12 cd12 ct12), f13, (PySem.W.fnOf "_law_random" "_law_random" (defArgs s__law_random) (defBody s__law_random) (defScope s__law_random) .none kV13 dc13 pm13 an13 cd13 ct13), f14, (PySem.W.fnOf "_law_cell" "_law_cell" (defArgs s__law_cell) (defBody s__law_cell) (defScope s__law_cell) .none kV14 dc14 pm14 an14 cd14 ct14), f15, (PySem.W.fnOf "_law_generator" "_law_generator" (defArgs s__law_generator) (defBody s__law_generator) (defScope s__law_generator) .none kV15 dc15 pm15 an15 cd15 ct15), f16, (PySem.W.fnOf "_law_exact" "_law_exact" (defArgs s__law_exact) (defBody s__law_exact) (defScope s__law_exact) .none kV16 dc16 pm16 an16 cd16 ct16), f17, (PySem.W.fnOf "_law_order" "_law_order" (defArgs s__law_order) (defBody s__law_order) (defScope s__law_order) .none kV17 dc17 pm17 an17 cd17 ct17), f18, (PySem.W.fnOf "_law_marked" "_law_marked" (defArgs s__law_marked) (defBody s__law_marked) (defScope s__law_marked) .none kV18 dc18 pm18 an18 cd18 ct18), f19, (PySem.W.fnOf "_law_caught" "_law_caught" (defArgs s__law_caught) (defBody s__law_caught) (defScope s__law_caught) .none kV19 dc19 pm19 an19 cd19 ct19), f20, (PySem.W.fnOf "_law_all_caught" "_law_all_caught" (defArgs s__law_all_caught) (defBody s__law_all_caught) (defScope s__law_all_caught) .none kV20 dc20 pm20 an20 cd20 ct20), f21, (PySem.W.fnOf "_law_bad_words" "_law_bad_words" (defArgs s__law_bad_words) (defBody s__law_bad_words) (defScope s__law_bad_words) .none kV21 dc21 pm21 an21 cd21 ct21), f22, (PySem.W.fnOf "_law_drawn" "_law_drawn" (defArgs s__law_drawn) (defBody s__law_drawn) (defScope s__law_drawn) .none kV22 dc22 pm22 an22 cd22 ct22), f23, (PySem.W.fnOf "_law_product" "_law_product" (defArgs s__law_product) (defBody s__law_product) (defScope s__law_product) .none kV23 dc23 pm23 an23 cd23 ct23), f24, (PySem.W.fnOf "_law_factorial" "_law_factorial" (defArgs s__law_factorial) (defBody s__law_factorial) (defScope s__law_factorial) .none kV24 dc24 pm24 an24 cd24 ct24), f25, (PySem.W.fnOf "_law_code" "_law_code" (defArgs s__law_code) (defBody s__law_code) (defScope s__law_code) .none kV25 dc25 pm25 an25 cd25 ct25), f26, (PySem.W.fnOf "_law_bad_orders" "_law_bad_orders" (defArgs s__law_bad_orders) (defBody s__law_bad_orders) (defScope s__law_bad_orders) .none kV26 dc26 pm26 an26 cd26 ct26), f27, (PySem.W.fnOf "_law_position" "_law_position" (defArgs s__law_position) (defBody s__law_position) (defScope s__law_position) .none kV27 dc27 pm27 an27 cd27 ct27), f28, (PySem.W.fnOf "_law_all" "_law_all" (defArgs s__law_all) (defBody s__law_all) (defScope s__law_all) .none kV28 dc28 pm28 an28 cd28 ct28), f29, (PySem.W.fnOf "_law_right" "_law_right" (defArgs s__law_right) (defBody s__law_right) (defScope s__law_right) .none kV29 dc29 pm29 an29 (.ref kk29) ct29), fa, (PySem.W.fnOf "law" "law" (defArgs s_law) (defBody s_law) (defScope s_law) .none kV30 dc30 pm30 an30 cd30 ct30), kk29, kp29, bD, bI, o_InvalidBoard, o_InvalidBox, o_InvalidList, o_InvalidNumber, o_InvalidOrder, o_InvalidShape, o_InvalidWord, o_TooMany, o_Unlike⟩) := (tabsIn_cons X y429 y329 y529 tabsIn_nil)
  exact ⟨⟨_, GG K _ (ClT.tabs (TT ⟨f0, (PySem.W.fnOf "is_whole" "is_whole" (defArgs s_is_whole) (defBody s_is_whole) (defScope s_is_whole) .none kV0 dc0 pm0 an0 cd0 ct0), f1, (PySem.W.fnOf "is_count" "is_count" (defArgs s_is_count) (defBody s_is_count) (defScope s_is_count) .none kV1 dc1 pm1 an1 cd1 ct1), f2, (PySem.W.fnOf "is_letter" "is_letter" (defArgs s_is_letter) (defBody s_is_letter) (defScope s_is_letter) .none kV2 dc2 pm2 an2 cd2 ct2), f3, (PySem.W.fnOf "is_word_by" "is_word_by" (defArgs s_is_word_by) (defBody s_is_word_by) (defScope s_is_word_by) .none kV3 dc3 pm3 an3 cd3 ct3), f4, (PySem.W.fnOf "is_order_by" "is_order_by" (defArgs s_is_order_by) (defBody s_is_order_by) (defScope s_is_order_by) .none kV4 dc4 pm4 an4 cd4 ct4), f5, (PySem.W.fnOf "check_order" "check_order" (defArgs s_check_order) (defBody s_check_order) (defScope s_check_order) .none kV5 dc5 pm5 an5 cd5 ct5), f6, (PySem.W.fnOf "whole_product" "whole_product" (defArgs s_whole_product) (defBody s_whole_product) (defScope s_whole_product) .none kV6 dc6 pm6 an6 cd6 ct6), f7, (PySem.W.fnOf "check_size" "check_size" (defArgs s_check_size) (defBody s_check_size) (defScope s_check_size) .none kV7 dc7 pm7 an7 cd7 ct7), f8, (PySem.W.fnOf "code_by" "code_by" (defArgs s_code_by) (defBody s_code_by) (defScope s_code_by) .none kV8 dc8 pm8 an8 cd8 ct8), f9, (PySem.W.fnOf "order_with" "order_with" (defArgs s_order_with) (defBody s_order_with) (defScope s_order_with) .none kV9 dc9 pm9 an9 cd9 ct9), f10, (PySem.W.fnOf "order_position" "order_position" (defArgs s_order_position) (defBody s_order_position) (defScope s_order_position) .none kV10 dc10 pm10 an10 cd10 ct10), f11, (PySem.W.fnOf "order_at" "order_at" (defArgs s_order_at) (defBody s_order_at) (defScope s_order_at) .none kV11 dc11 pm11 an11 cd11 ct11), f12, (PySem.W.fnOf "_law_hash" "_law_hash" (defArgs s__law_hash) (defBody s__law_hash) (defScope s__law_hash) .none kV12 dc12 pm12 an12 cd12 ct12), f13, (PySem.W.fnOf "_law_random" "_law_random" (defArgs s__law_random) (defBody s__law_random) (defScope s__law_random) .none kV13 dc13 pm13 an13 cd13 ct13), f14, (PySem.W.fnOf "_law_cell" "_law_cell" (defArgs s__law_cell) (defBody s__law_cell) (defScope s__law_cell) .none kV14 dc14 pm14 an14 cd14 ct14), f15, (PySem.W.fnOf "_law_generator" "_law_generator" (defArgs s__law_generator) (defBody s__law_generator) (defScope s__law_generator) .none kV15 dc15 pm15 an15 cd15 ct15), f16, (PySem.W.fnOf "_law_exact" "_law_exact" (defArgs s__law_exact) (defBody s__law_exact) (defScope s__law_exact) .none kV16 dc16 pm16 an16 cd16 ct16), f17, (PySem.W.fnOf "_law_order" "_law_order" (defArgs s__law_order) (defBody s__law_order) (defScope s__law_order) .none kV17 dc17 pm17 an17 cd17 ct17), f18, (PySem.W.fnOf "_law_marked" "_law_marked" (defArgs s__law_marked) (defBody s__law_marked) (defScope s__law_marked) .none kV18 dc18 pm18 an18 cd18 ct18), f19, (PySem.W.fnOf "_law_caught" "_law_caught" (defArgs s__law_caught) (defBody s__law_caught) (defScope s__law_caught) .none kV19 dc19 pm19 an19 cd19 ct19), f20, (PySem.W.fnOf "_law_all_caught" "_law_all_caught" (defArgs s__law_all_caught) (defBody s__law_all_caught) (defScope s__law_all_caught) .none kV20 dc20 pm20 an20 cd20 ct20), f21, (PySem.W.fnOf "_law_bad_words" "_law_bad_words" (defArgs s__law_bad_words) (defBody s__law_bad_words) (defScope s__law_bad_words) .none kV21 dc21 pm21 an21 cd21 ct21), f22, (PySem.W.fnOf "_law_drawn" "_law_drawn" (defArgs s__law_drawn) (defBody s__law_drawn) (defScope s__law_drawn) .none kV22 dc22 pm22 an22 cd22 ct22), f23, (PySem.W.fnOf "_law_product" "_law_product" (defArgs s__law_product) (defBody s__law_product) (defScope s__law_product) .none kV23 dc23 pm23 an23 cd23 ct23), f24, (PySem.W.fnOf "_law_factorial" "_law_factorial" (defArgs s__law_factorial) (defBody s__law_factorial) (defScope s__law_factorial) .none kV24 dc24 pm24 an24 cd24 ct24), f25, (PySem.W.fnOf "_law_code" "_law_code" (defArgs s__law_code) (defBody s__law_code) (defScope s__law_code) .none kV25 dc25 pm25 an25 cd25 ct25), f26, (PySem.W.fnOf "_law_bad_orders" "_law_bad_orders" (defArgs s__law_bad_orders) (defBody s__law_bad_orders) (defScope s__law_bad_orders) .none kV26 dc26 pm26 an26 cd26 ct26), f27, (PySem.W.fnOf "_law_position" "_law_position" (defArgs s__law_position) (defBody s__law_position) (defScope s__law_position) .none kV27 dc27 pm27 an27 cd27 ct27), f28, (PySem.W.fnOf "_law_all" "_law_all" (defArgs s__law_all) (defBody s__law_all) (defScope s__law_all) .none kV28 dc28 pm28 an28 cd28 ct28), f29, (PySem.W.fnOf "_law_right" "_law_right" (defArgs s__law_right) (defBody s__law_right) (defScope s__law_right) .none kV29 dc29 pm29 an29 (.ref kk29) ct29), fa, (PySem.W.fnOf "law" "law" (defArgs s_law) (defBody s_law) (defScope s_law) .none kV30 dc30 pm30 an30 cd30 ct30), kk29, kp29, bD, bI, o_InvalidBoard, o_InvalidBox, o_InvalidList, o_InvalidNumber, o_InvalidOrder, o_InvalidShape, o_InvalidWord, o_TooMany, o_Unlike⟩)), CS ⟨f0, (PySem.W.fnOf "is_whole" "is_whole" (defArgs s_is_whole) (defBody s_is_whole) (defScope s_is_whole) .none kV0 dc0 pm0 an0 cd0 ct0), f1, (PySem.W.fnOf "is_count" "is_count" (defArgs s_is_count) (defBody s_is_count) (defScope s_is_count) .none kV1 dc1 pm1 an1 cd1 ct1), f2, (PySem.W.fnOf "is_letter" "is_letter" (defArgs s_is_letter) (defBody s_is_letter) (defScope s_is_letter) .none kV2 dc2 pm2 an2 cd2 ct2), f3, (PySem.W.fnOf "is_word_by" "is_word_by" (defArgs s_is_word_by) (defBody s_is_word_by) (defScope s_is_word_by) .none kV3 dc3 pm3 an3 cd3 ct3), f4, (PySem.W.fnOf "is_order_by" "is_order_by" (defArgs s_is_order_by) (defBody s_is_order_by) (defScope s_is_order_by) .none kV4 dc4 pm4 an4 cd4 ct4), f5, (PySem.W.fnOf "check_order" "check_order" (defArgs s_check_order) (defBody s_check_order) (defScope s_check_order) .none kV5 dc5 pm5 an5 cd5 ct5), f6, (PySem.W.fnOf "whole_product" "whole_product" (defArgs s_whole_product) (defBody s_whole_product) (defScope s_whole_product) .none kV6 dc6 pm6 an6 cd6 ct6), f7, (PySem.W.fnOf "check_size" "check_size" (defArgs s_check_size) (defBody s_check_size) (defScope s_check_size) .none kV7 dc7 pm7 an7 cd7 ct7), f8, (PySem.W.fnOf "code_by" "code_by" (defArgs s_code_by) (defBody s_code_by) (defScope s_code_by) .none kV8 dc8 pm8 an8 cd8 ct8), f9, (PySem.W.fnOf "order_with" "order_with" (defArgs s_order_with) (defBody s_order_with) (defScope s_order_with) .none kV9 dc9 pm9 an9 cd9 ct9), f10, (PySem.W.fnOf "order_position" "order_position" (defArgs s_order_position) (defBody s_order_position) (defScope s_order_position) .none kV10 dc10 pm10 an10 cd10 ct10), f11, (PySem.W.fnOf "order_at" "order_at" (defArgs s_order_at) (defBody s_order_at) (defScope s_order_at) .none kV11 dc11 pm11 an11 cd11 ct11), f12, (PySem.W.fnOf "_law_hash" "_law_hash" (defArgs s__law_hash) (defBody s__law_hash) (defScope s__law_hash) .none kV12 dc12 pm12 an12 cd12 ct12), f13, (PySem.W.fnOf "_law_random" "_law_random" (defArgs s__law_random) (defBody s__law_random) (defScope s__law_random) .none kV13 dc13 pm13 an13 cd13 ct13), f14, (PySem.W.fnOf "_law_cell" "_law_cell" (defArgs s__law_cell) (defBody s__law_cell) (defScope s__law_cell) .none kV14 dc14 pm14 an14 cd14 ct14), f15, (PySem.W.fnOf "_law_generator" "_law_generator" (defArgs s__law_generator) (defBody s__law_generator) (defScope s__law_generator) .none kV15 dc15 pm15 an15 cd15 ct15), f16, (PySem.W.fnOf "_law_exact" "_law_exact" (defArgs s__law_exact) (defBody s__law_exact) (defScope s__law_exact) .none kV16 dc16 pm16 an16 cd16 ct16), f17, (PySem.W.fnOf "_law_order" "_law_order" (defArgs s__law_order) (defBody s__law_order) (defScope s__law_order) .none kV17 dc17 pm17 an17 cd17 ct17), f18, (PySem.W.fnOf "_law_marked" "_law_marked" (defArgs s__law_marked) (defBody s__law_marked) (defScope s__law_marked) .none kV18 dc18 pm18 an18 cd18 ct18), f19, (PySem.W.fnOf "_law_caught" "_law_caught" (defArgs s__law_caught) (defBody s__law_caught) (defScope s__law_caught) .none kV19 dc19 pm19 an19 cd19 ct19), f20, (PySem.W.fnOf "_law_all_caught" "_law_all_caught" (defArgs s__law_all_caught) (defBody s__law_all_caught) (defScope s__law_all_caught) .none kV20 dc20 pm20 an20 cd20 ct20), f21, (PySem.W.fnOf "_law_bad_words" "_law_bad_words" (defArgs s__law_bad_words) (defBody s__law_bad_words) (defScope s__law_bad_words) .none kV21 dc21 pm21 an21 cd21 ct21), f22, (PySem.W.fnOf "_law_drawn" "_law_drawn" (defArgs s__law_drawn) (defBody s__law_drawn) (defScope s__law_drawn) .none kV22 dc22 pm22 an22 cd22 ct22), f23, (PySem.W.fnOf "_law_product" "_law_product" (defArgs s__law_product) (defBody s__law_product) (defScope s__law_product) .none kV23 dc23 pm23 an23 cd23 ct23), f24, (PySem.W.fnOf "_law_factorial" "_law_factorial" (defArgs s__law_factorial) (defBody s__law_factorial) (defScope s__law_factorial) .none kV24 dc24 pm24 an24 cd24 ct24), f25, (PySem.W.fnOf "_law_code" "_law_code" (defArgs s__law_code) (defBody s__law_code) (defScope s__law_code) .none kV25 dc25 pm25 an25 cd25 ct25), f26, (PySem.W.fnOf "_law_bad_orders" "_law_bad_orders" (defArgs s__law_bad_orders) (defBody s__law_bad_orders) (defScope s__law_bad_orders) .none kV26 dc26 pm26 an26 cd26 ct26), f27, (PySem.W.fnOf "_law_position" "_law_position" (defArgs s__law_position) (defBody s__law_position) (defScope s__law_position) .none kV27 dc27 pm27 an27 cd27 ct27), f28, (PySem.W.fnOf "_law_all" "_law_all" (defArgs s__law_all) (defBody s__law_all) (defScope s__law_all) .none kV28 dc28 pm28 an28 cd28 ct28), f29, (PySem.W.fnOf "_law_right" "_law_right" (defArgs s__law_right) (defBody s__law_right) (defScope s__law_right) .none kV29 dc29 pm29 an29 (.ref kk29) ct29), fa, (PySem.W.fnOf "law" "law" (defArgs s_law) (defBody s_law) (defScope s_law) .none kV30 dc30 pm30 an30 cd30 ct30), kk29, kp29, bD, bI, o_InvalidBoard, o_InvalidBox, o_InvalidList, o_InvalidNumber, o_InvalidOrder, o_InvalidShape, o_InvalidWord, o_TooMany, o_Unlike⟩, rfl, TI, by simp [CS, TT, GG, mkG, ClT.tabs], by simp [CS, TT, GG, mkG, ClT.tabs], fun s v => .of_eq rfl, fun base _ _ hTB => ok_law T hTB⟩⟩
end
end Im
/-! More words applied, for simp; more loops. -/
namespace Im
open PySem PySem.Spec PyProof.Rows L2
@[simp] theorem x_mLate (i : Nat) (ms : AM) (en : En) : mLate i ms en = (match en[i]? with
  | some (some _) => match ms en with
    | .ok ds en' => match en'[i]? with
      | some (some d) => .ok (d :: ds) (en'.set i none)
      | _ => .bad
    | .exc c x => .exc c x
    | .bad => .bad
  | _ => .bad) := rfl
@[simp] theorem x_mAct (i : Nat) (CF : Nat → List D → FRes) (en : En) : mAct i CF en = (match en[i]? with
  | some (some (.clo n ds)) => match CF n ds with
    | .exc c x => .exc c x
    | _ => .bad
  | _ => .bad) := rfl
@[simp] theorem x_mCallC (F : List D → FRes) (ns : List (Nat × List Nat)) (ms : AM) (en : En) : mCallC F ns ms en = mHand F ns (ms en) := rfl
@[simp] theorem x_mHand (F : List D → FRes) (ns : List (Nat × List Nat)) (ds : List D) (en : En) : mHand F ns (.ok ds en) = (match capsD ns en with
    | some cs => if noTagL ds then match F (.lst cs :: ds) with
        | .ok d _ => if scD d then .ok d en else .bad
        | _ => .bad
      else .bad
    | none => .bad) := rfl
@[simp] theorem x_mHandB (F : List D → FRes) (ns : List (Nat × List Nat)) (iy : Nat) (ms : AM) (en : En) : mHandB F ns iy ms en = (match mHand F ns (ms (en.set iy none)) with
  | .ok (.bl true) en' => .nx en'
  | .exc c x => .exc c x
  | _ => .bad) := rfl
@[simp] theorem x_capsN (en : En) : capsD [] en = some [] := rfl
@[simp] theorem x_capsC (n : Nat × List Nat) (ns : List (Nat × List Nat)) (en : En) : capsD (n :: ns) en = (match capD n.2 en with
    | some ds => (capsD ns en).map (D.clo n.1 ds :: ·)
    | none => none) := rfl
@[simp] theorem x_capN (en : En) : capD [] en = some [] := rfl
@[simp] theorem x_capC (j : Nat) (is : List Nat) (en : En) : capD (j :: is) en = (match en[j]? with
    | some (some d) => if noTag d then (capD is en).map (d :: ·) else none
    | _ => none) := rfl
@[simp] theorem y_dSorted (ns : List Int) : dSorted (.lst (ns.map D.int)) = some (.lst ((srtB leI ns).map D.int)) := by
  have : ∀ ns : List Int, intsD (ns.map D.int) = some ns := fun ns => by
    induction ns with
    | nil => rfl
    | cons n ns ih => simp [intsD, ih]
  simp [dSorted, this]
@[simp] theorem y_dSortedP (ps : List (Int × Int)) : dSortedP (.lst (ps.map prD)) = some (.lst ((srtB leP ps).map prD)) := by
  have : ∀ ps : List (Int × Int), prsO (ps.map prD) = some ps := fun ps => by
    induction ps with
    | nil => rfl
    | cons n ns ih => simp [prsO, prD, ih]
  simp [dSortedP, this]
@[simp] theorem y_dTupleOf (xs : List D) : dTupleOf (.lst xs) = some (.tup xs) := rfl
@[simp] theorem y_dCatT (xs ys : List D) : dCatT (.tup xs) (.tup ys) = (if xs.length + ys.length ≤ lim then some (.tup (xs ++ ys)) else none) := rfl
@[simp] theorem y_dRgL (i j : Int) : dRgL (.int i) (.int j) = (if 0 ≤ i ∧ i ≤ 16777216 ∧ 0 ≤ j ∧ j ≤ 16777216 then some (.lst (rgL i j)) else none) := rfl
@[simp] theorem y_dRgL1 (j : Int) : dRgL1 (.int j) = (if 0 ≤ j ∧ j ≤ 16777216 then some (.lst (rgL 0 j)) else none) := rfl
theorem ints_map (ns : List Int) : intsD (ns.map D.int) = some ns := by
  induction ns with
  | nil => rfl
  | cons n ns ih => simp [intsD, ih]
@[simp] theorem y_dSum (ns : List Int) : dSum (.lst (ns.map D.int)) = some (.int ns.sum) := by simp [dSum, ints_map]
theorem bls_map (ns : List Bool) : blsD (ns.map D.bl) = some ns := by
  induction ns with
  | nil => rfl
  | cons n ns ih => simp [blsD, ih]
@[simp] theorem y_dAll (ns : List Bool) : dAll (.lst (ns.map D.bl)) = some (.bl (ns.all id)) := by simp [dAll, bls_map]
@[simp] theorem y_dAny (ns : List Bool) : dAny (.lst (ns.map D.bl)) = some (.bl (ns.any id)) := by simp [dAny, bls_map]
/-! ### no tags -/
@[simp] theorem nt_int (i : Int) : noTag (.int i) = true := rfl
@[simp] theorem nt_bl (i : Bool) : noTag (.bl i) = true := rfl
@[simp] theorem nt_str (i : Str) : noTag (.str i) = true := rfl
@[simp] theorem nt_non : noTag .non = true := rfl
@[simp] theorem nt_ed : noTag .edict = true := rfl
@[simp] theorem nt_lst (xs : List D) : noTag (.lst xs) = noTagL xs := by rw [noTag]
@[simp] theorem nt_tup (xs : List D) : noTag (.tup xs) = noTagL xs := by rw [noTag]
@[simp] theorem nt_nil : noTagL [] = true := by rw [noTagL]
@[simp] theorem nt_cons (x : D) (xs : List D) : noTagL (x :: xs) = (noTag x && noTagL xs) := by rw [noTagL]
theorem nt_app (xs ys : List D) : noTagL (xs ++ ys) = (noTagL xs && noTagL ys) := by
  induction xs with
  | nil => simp
  | cons x xs ih => simp [ih, Bool.and_assoc]
theorem nt_ints (ns : List Int) : noTagL (ns.map D.int) = true := by
  induction ns with
  | nil => simp
  | cons n ns ih => simp [ih]
end Im
/-! The laws' own tools: numbers drawn, orders drawn. -/
namespace Im
open PySem PySem.Spec PyProof.Rows L2
theorem fmod_lo {a b : Int} (h : 0 < b) : 0 ≤ a.fmod b := by rw [Int.fmod_eq_emod_of_nonneg _ (Int.le_of_lt h)]; exact Int.emod_nonneg _ (by omega)
theorem fmod_hi {a b : Int} (h : 0 < b) : a.fmod b < b := by rw [Int.fmod_eq_emod_of_nonneg _ (Int.le_of_lt h)]; exact Int.emod_lt_of_pos _ h
theorem fdiv_lo {a b : Int} (h : 0 < b) (ha : 0 ≤ a) : 0 ≤ a.fdiv b := by rw [Int.fdiv_eq_ediv_of_nonneg _ (Int.le_of_lt h)]; exact Int.ediv_nonneg ha (Int.le_of_lt h)
theorem hash_ok (s c : Int) : ∃ r ios, F__law_hash [.int s, .int c] = .ok (.int r) ios := by
  have lo := fmod_lo (a := s * 48271 + c * 69621 + 11) (b := 2147483647) (by decide)
  have hi := fmod_hi (a := s * 48271 + c * 69621 + 11) (b := 2147483647) (by decide)
  generalize hx : (s * 48271 + c * 69621 + 11).fmod 2147483647 = x at lo hi
  have f1 : -18446744073709551616 < x := by omega
  have f2 : x < 18446744073709551616 := by omega
  have lo2 := fmod_lo (a := x * x + 62089 * c + 131) (b := 2147483629) (by decide)
  have hi2 := fmod_hi (a := x * x + 62089 * c + 131) (b := 2147483629) (by decide)
  generalize hy : (x * x + 62089 * c + 131).fmod 2147483629 = y at lo2 hi2
  have g1 : -18446744073709551616 < y := by omega
  have g2 : y < 18446744073709551616 := by omega
  unfold F__law_hash runF m__law_hash
  simp [f1, f2, g1, g2, hx, hy]
/-- a generator: its first cell is not below 0 -/
def Gn (g : D) : Prop := ∃ a b c : Int, g = .lst [.int a, .int b, .int c] ∧ 0 ≤ a
theorem bits_lt (n : Int) (h0 : 0 < n) (h1 : n < 536870912) : (1 + ((Builtin.Int.intBits n : Nat) : Int).fdiv 30) = 1 := by
  have e : Builtin.Int.intBits n ≤ 29 := by
    unfold Builtin.Int.intBits
    rw [if_neg (by simp; omega)]
    have : n.natAbs.log2 < 29 := (Nat.log2_lt (by omega)).mpr (by omega)
    omega
  generalize Builtin.Int.intBits n = b at e
  rw [Int.fdiv_eq_ediv_of_nonneg _ (by decide), Int.ediv_eq_zero_of_lt (by omega) (by omega)]
  rfl
theorem rnd_ok {n : Int} {g : D} (h : Gn g) (h0 : 0 < n) (h1 : n < 536870912) :
    ∃ (r : Int) (g' : D), F__law_random [g, .int n] = .ok (.int r) [some g', none, none, none] ∧ 0 ≤ r ∧ r < n ∧ Gn g' := by
  obtain ⟨a, b, c, rfl, ha⟩ := h
  have hb := bits_lt n h0 h1
  have n0 : n ≠ 0 := by omega
  have n1 : n.natAbs < 1073741824 := by omega
  by_cases ha' : 0 < a
  · refine ⟨a.fmod n, .lst [.int (a.fdiv n), .int b, .int c], ?_, fmod_lo h0, fmod_hi h0, a.fdiv n, b, c, rfl, fdiv_lo h0 ha⟩
    unfold F__law_random runF m__law_random
    simp [ha', n0, n1]
  · obtain ⟨r, ios, hh⟩ := hash_ok b (c + 1)
    refine ⟨(r).fmod n, .lst [.int a, .int b, .int (c + 1)], ?_, fmod_lo h0, fmod_hi h0, a, b, c + 1, rfl, ha⟩
    unfold F__law_random runF m__law_random
    simp [ha', n0, n1, hb, hh, rngD, List.range_succ, loop_cons, loop_nil, lStep]
theorem atI_ok {α : Type} {xs : List α} {r : Int} (h0 : 0 ≤ r) (h1 : r < xs.length) : ∃ x, atI xs r = some x ∧ x ∈ xs := by
  have hr : r.toNat < xs.length := by omega
  refine ⟨xs[r.toNat], ?_, List.getElem_mem hr⟩
  unfold atI
  simp [h0, h1, hr]
theorem cell_ok (ns : List Int) (i : Nat) : ∃ v ios, F__law_cell [.scr ns, .int i] = .ok (.int v) ios := by
  unfold F__law_cell runF m__law_cell
  by_cases h : i < ns.length
  · obtain ⟨x, ex, hx⟩ := atI_ok (xs := ns) (r := (i : Int)) (by omega) (by omega)
    simp [h, ex]
  · simp [h, mSl, mpN, mpS, dSlice, dSum, ints_map]
theorem gen_ok (ns : List Int) (i : Nat) : ∃ g ios, F__law_generator [.scr ns, .int i] = .ok g ios ∧ Gn g := by
  obtain ⟨v, ios, e⟩ := cell_ok ns i
  refine ⟨.lst [.int ((if 0 > v - 10 ^ 18 then 0 else v - 10 ^ 18).fmod ((10 ^ 60) ^ 10)), .int (v.fmod 2147483647), .int (1000 * i)], [none, none, none], ?_, _, _, _, rfl, fmod_lo (by decide)⟩
  unfold F__law_generator runF m__law_generator
  simp [e, cPow, show (Builtin.Int.intBits 10 : Nat) = 4 by decide, show Builtin.Int.intBits 1000000000000000000000000000000000000000000000000000000000000 = 200 by decide +kernel]
/-! ### lists of numbers -/
abbrev il (xs : List Int) : D := .lst (xs.map D.int)
/-- 1, .., n -/
def up1 (n : Nat) : List Int := (List.range n).map fun (i : Nat) => (1 : Int) + (i : Nat)
theorem up1_len (n : Nat) : (up1 n).length = n := by simp [up1]
theorem rgL_up (n : Nat) (j : Int) (h : j = (n : Int) + 1) : rgL 1 j = (up1 n).map D.int := by
  subst h
  unfold rgL up1
  rw [List.map_map, show ((n : Int) + 1 - 1).toNat = n by omega]
  rfl
theorem up1_lt (n : Nat) : (up1 n).Pairwise (· < ·) := by
  unfold up1
  rw [List.pairwise_map]
  exact List.pairwise_lt_range.imp fun h => by omega
theorem up1_mem {n : Nat} {x : Int} : x ∈ up1 n ↔ 1 ≤ x ∧ x ≤ n := by
  unfold up1
  rw [List.mem_map]
  constructor
  · rintro ⟨i, hi, rfl⟩
    have := List.mem_range.mp hi
    omega
  · intro h
    exact ⟨(x - 1).toNat, List.mem_range.mpr (by omega), by omega⟩
theorem map_perm {α β : Type} {f : α → β} : ∀ {l : List β} {m : List α}, l.Perm (m.map f) → ∃ l' : List α, l = l'.map f ∧ l'.Perm m := by
  intro l m h
  generalize hr : m.map f = r at h
  induction h generalizing m with
  | nil =>
    cases m with
    | nil => exact ⟨[], rfl, .refl _⟩
    | cons a m => cases hr
  | cons x h ih =>
    cases m with
    | nil => cases hr
    | cons a m =>
      simp only [List.map_cons, List.cons.injEq] at hr
      obtain ⟨l', e, p⟩ := ih hr.2
      exact ⟨a :: l', by rw [e, ← hr.1]; rfl, p.cons a⟩
  | swap x y l =>
    match m, hr with
    | a :: b :: m, hr =>
      simp only [List.map_cons, List.cons.injEq] at hr
      obtain ⟨rfl, rfl, rfl⟩ := hr
      exact ⟨b :: a :: m, rfl, .swap _ _ _⟩
  | trans h1 h2 ih1 ih2 =>
    obtain ⟨l2, e2, p2⟩ := ih2 hr
    obtain ⟨l1, e1, p1⟩ := ih1 e2.symm
    exact ⟨l1, e1, p1.trans p2⟩
theorem erase_perm {α : Type} {l : List α} {i : Nat} (h : i < l.length) : (l[i] :: l.eraseIdx i).Perm l := by
  rw [List.eraseIdx_eq_take_drop_succ]
  have e : l = l.take i ++ l[i] :: l.drop (i + 1) := by rw [← List.drop_eq_getElem_cons h, List.take_append_drop]
  exact (List.perm_middle.symm).trans (by rw [← e])
theorem order_ok {g : D} (h : Gn g) (ds : List D) (hl : ds.length < 100000) : ∃ (es : List D) (g' : D), F__law_order [g, .lst ds] = .ok (.lst es) [some g', none, none, none, none] ∧ es.Perm ds ∧ Gn g' := by
  have key := loop_rng (g := gSet 4) (mb := mDrop (mAppend 3 (mPopAt 2 (mCallR F__law_random [0, 1] 0 0 (mCons (mMove 0) (mCons (m1 dLen (mSee 2)) mNil))))))
    (fun i en => ∃ (g : D) (left found : List D) (x : Option D), en = [some g, some (.lst ds), some (.lst left), some (.lst found), x] ∧ Gn g ∧ found.length = i ∧ left.length + i = ds.length ∧ (found ++ left).Perm ds) ds.length [some g, some (.lst ds), some (.lst ds), some (.lst []), none] (by
    rintro i en hi ⟨g, left, found, x, rfl, hg, hf, hle, hp⟩
    obtain ⟨r, g', e, r0, r1, hg'⟩ := rnd_ok (n := (left.length : Nat)) hg (by omega) (by omega)
    have hr : r.toNat < left.length := by omega
    have e2 : left[r.toNat]? = some left[r.toNat] := List.getElem?_eq_getElem hr
    have hlim : left.length ≤ 1000000 := by omega
    have hlim2 : found.length < 1000000 := by omega
    simp [e, r0, r1, e2, hlim, hlim2]
    refine ⟨g', left.eraseIdx r.toNat, found ++ [left[r.toNat]], ⟨rfl, rfl, rfl⟩, hg', by simp [hf], ?_, ?_⟩
    · rw [List.length_eraseIdx_of_lt hr]; omega
    · have q := erase_perm hr
      have q2 := (List.Perm.append_left found q)
      rw [List.append_assoc]
      exact q2.trans hp)
    ⟨g, ds, [], none, rfl, h, rfl, rfl, .refl _⟩
  obtain ⟨en, e, g', left, found, x, rfl, hg', hf, hle, hp⟩ := key
  have : left = [] := List.eq_nil_of_length_eq_zero (by omega)
  subst this
  refine ⟨found, g', ?_, by simpa using hp, hg'⟩
  have hlim : (ds.length : Int) ≤ 1000000 := by omega
  have hlim3 : (-1000000 : Int) ≤ ds.length := by omega
  unfold F__law_order runF m__law_order
  generalize (mDrop (mAppend 3 (mPopAt 2 (mCallR F__law_random [0, 1] 0 0 (mCons (mMove 0) (mCons (m1 dLen (mSee 2)) mNil)))))) = body at e ⊢
  simp [hlim, hlim3, e]
theorem drawn_ok {g : D} (h : Gn g) (m : Int) (h0 : 0 ≤ m) (h1 : m < 50000) : ∃ (xs : List Int) (n : Nat) (g' : D), F__law_drawn [g, .int m] = .ok (il xs) [some g', none] ∧ xs.Perm (up1 n) ∧ n ≤ m ∧ Gn g' := by
  obtain ⟨r, g1, e, r0, r1, hg1⟩ := rnd_ok (n := m + 1) h (by omega) (by omega)
  obtain ⟨es, g2, e2, p, hg2⟩ := order_ok hg1 (rgL 1 (1 + r)) (by simp [rgL]; omega)
  have eu : rgL 1 (1 + r) = (up1 r.toNat).map D.int := rgL_up _ _ (by omega)
  rw [eu] at p e2
  obtain ⟨xs, rfl, p'⟩ := map_perm p
  refine ⟨xs, r.toNat, g2, ?_, p', by omega, hg2⟩
  have b1 : (0 : Int) ≤ 1 + r := by omega
  have b2 : 1 + r ≤ 16777216 := by omega
  unfold F__law_drawn runF m__law_drawn
  simp [e, b1, b2, eu, e2]
end Im
/-! The laws' own tools: told exactly; marked; caught. -/
namespace Im
open PySem PySem.Spec PyProof.Rows L2
/-! ### told exactly -/
theorem eqE_D {d1 d2 : D} (h : ∀ x y, d1 = .lst [x, .edict] → d2 = .lst [y, .edict] → False) : eqE d1 d2 = eqD false d1 d2 := by
  unfold eqE
  split
  · exact (h _ _ rfl rfl).elim
  · rfl
theorem reprE_D {d : D} (h : ∀ x, d = .lst [x, .edict] → False) : dReprE d = dRepr d := by
  unfold dReprE
  split
  · exact (h _ rfl).elim
  · rfl
theorem nz_noed {n w : Nat} {x : D} (h : Nz n w (.lst [x, .edict])) : False := by
  obtain ⟨p, e, _⟩ := h
  simp [toP, toPL] at e
theorem exact_nz {n w : Nat} {d : D} (h : Nz n w d) (hn : n ≤ 60 := by decide) (hw : w ≤ 60000 := by decide) : F__law_exact [d, d] = .ok (.bl true) [none, none] := by
  have e1 : eqE d d = some (.bl true) := by
    rw [eqE_D fun x y q _ => by subst q; exact nz_noed h]
    exact eqD_self false h hn
  obtain ⟨s, e2, hs, _⟩ := repr_nz h hn hw
  have e3 : dReprE d = some (.str s) := by rw [reprE_D fun x q => by subst q; exact nz_noed h]; exact e2
  have e4 : eqE (.str s) (.str s) = some (.bl true) := by
    rw [eqE_D (fun x y q _ => by cases q), eqD_strs s s false hs hs]
    simp
  unfold F__law_exact runF m__law_exact
  simp [e1, e3, e4]
def kin9 (a : Nat) : D := .lst ((List.range 9).map fun i => .bl (decide (i = a)))
theorem exact_ed4 : F__law_exact [.lst [kin9 4, .edict], .lst [kin9 4, .edict]] = .ok (.bl true) [none, none] := by kernel_rfl
theorem exact_ed6 : F__law_exact [.lst [kin9 6, .edict], .lst [kin9 6, .edict]] = .ok (.bl true) [none, none] := by kernel_rfl
theorem nz_kin (a : Nat) : Nz 1 9 (kin9 a) := by
  have h : NzL 0 (9 * 1) ((List.range 9).map fun i => D.bl (decide (i = a))) := by
    have := nzl_all (n := 0) (w := 0) (ds := (List.range 9).map fun i => D.bl (decide (i = a))) (fun d hd => by
      obtain ⟨i, _, rfl⟩ := List.mem_map.mp hd
      exact nz_bl _)
    simpa using this
  exact nz_lst h
theorem exact_v {n w : Nat} {v : D} (a : Nat) (h : Nz n w v) (hn : n ≤ 50 := by decide) (hw : w ≤ 50000 := by decide) : F__law_exact [.lst [kin9 a, v], .lst [kin9 a, v]] = .ok (.bl true) [none, none] := by
  have q := nz_lst (nzl_cons (nz_kin a) (nzl_cons h nzl_nil))
  exact exact_nz (q.mono (n' := 60) (w' := 60000) (by omega) (by omega))
theorem caught_ok {n : Nat} {ds : List D} {c : Str} {v : D} (h : CF n ds = .exc c v) : F__law_caught [.clo n ds] = .ok (.lst [.lst [.bl (c == "InvalidShape"), .bl (c == "InvalidBox"), .bl (c == "InvalidBoard"), .bl (c == "InvalidWord"), .bl (c == "InvalidOrder"), .bl (c == "InvalidNumber"), .bl (c == "InvalidList"), .bl (c == "Unlike"), .bl (c == "TooMany")], v]) [none, none, none, none] := by
  unfold F__law_caught runF m__law_caught
  generalize CF = cf at h ⊢
  simp [h]
theorem places_ok (a : Nat) (x v e : Option D) : mLc (mRng1 (mC (.int 9))) (gSet 4) (mC (.bl true)) (mB (eqD false) (mVarS 4) (mVar 1)) [4] [x, some (.int (a : Nat)), v, e, none] = .ok (kin9 a) [x, some (.int (a : Nat)), v, e, none] := by
  have c := comp_map (g := gSet 4) (mt := mC (.bl true)) (me := mB (eqD false) (mVarS 4) (mVar 1)) (vs := [4]) (en := [x, some (.int (a : Nat)), v, e, none]) (fun i : Nat => D.int (0 + (i : Int))) (fun i => .bl (decide (i = a))) (List.range 9) (by simp) (fun i hi => by
    simp
    omega)
  rw [x_mLc]
  simp only [x_mRng1, x_mC, y_rngOk]
  simp only [show decide ((-1000000 : Int) ≤ 9 ∧ (9 : Int) ≤ 1000000) = true by decide, if_true]
  exact c
theorem all_caught {a : Nat} {c : Str} {v : D} (hk : D.lst [.bl (c == "InvalidShape"), .bl (c == "InvalidBox"), .bl (c == "InvalidBoard"), .bl (c == "InvalidWord"), .bl (c == "InvalidOrder"), .bl (c == "InvalidNumber"), .bl (c == "InvalidList"), .bl (c == "Unlike"), .bl (c == "TooMany")] = kin9 a) (hx : F__law_exact [.lst [kin9 a, v], .lst [kin9 a, v]] = .ok (.bl true) [none, none])
    (cs : List (Nat × List D)) (hl : cs.length ≤ 1000) (h : ∀ p ∈ cs, CF p.1 p.2 = .exc c v) : F__law_all_caught [.lst (cs.map fun p => .clo p.1 p.2), .int (a : Nat), v] = .ok (.bl true) [none, none, none, none, none] := by
  have pl := fun x => places_ok a (some (.lst (cs.map fun p => .clo p.1 p.2))) (some v) x
  unfold F__law_all_caught runF m__law_all_caught
  generalize hm : mLc (mRng1 (mC (.int 9))) (gSet 4) (mC (.bl true)) (mB (eqD false) (mVarS 4) (mVar 1)) [4] = mk at pl
  have k := comp_flt (g := gSet 3) (mt := (mNot (mCall F__law_exact [0, 1] (mCons (mCall F__law_caught [0] (mCons (mVar 3) mNil)) (mCons (mLst (mCons mk (mCons (mVar 2) mNil))) mNil))))) (me := mVar 3) (vs := [3]) (en := [some (.lst (cs.map fun p => .clo p.1 p.2)), some (.int (a : Nat)), some v, none, none]) (fun p : Nat × List D => D.clo p.1 p.2) (fun _ => false) (fun _ => .non) cs (by simp; omega) (fun p hp => by
    simp [caught_ok (h p hp), pl, hk, hx])
  have e0 : eqD false (.lst []) (.lst []) = some (.bl true) := by kernel_rfl
  rw [show (cs.filter fun _ => false).map (fun _ => D.non) = [] by simp] at k
  simp [k, e0]
theorem kO : D.lst [.bl (("InvalidOrder" : Str) == "InvalidShape"), .bl (("InvalidOrder" : Str) == "InvalidBox"), .bl (("InvalidOrder" : Str) == "InvalidBoard"), .bl (("InvalidOrder" : Str) == "InvalidWord"), .bl (("InvalidOrder" : Str) == "InvalidOrder"), .bl (("InvalidOrder" : Str) == "InvalidNumber"), .bl (("InvalidOrder" : Str) == "InvalidList"), .bl (("InvalidOrder" : Str) == "Unlike"), .bl (("InvalidOrder" : Str) == "TooMany")] = kin9 4 := by kernel_rfl
theorem kL : D.lst [.bl (("InvalidList" : Str) == "InvalidShape"), .bl (("InvalidList" : Str) == "InvalidBox"), .bl (("InvalidList" : Str) == "InvalidBoard"), .bl (("InvalidList" : Str) == "InvalidWord"), .bl (("InvalidList" : Str) == "InvalidOrder"), .bl (("InvalidList" : Str) == "InvalidNumber"), .bl (("InvalidList" : Str) == "InvalidList"), .bl (("InvalidList" : Str) == "Unlike"), .bl (("InvalidList" : Str) == "TooMany")] = kin9 6 := by kernel_rfl
theorem kN : D.lst [.bl (("InvalidNumber" : Str) == "InvalidShape"), .bl (("InvalidNumber" : Str) == "InvalidBox"), .bl (("InvalidNumber" : Str) == "InvalidBoard"), .bl (("InvalidNumber" : Str) == "InvalidWord"), .bl (("InvalidNumber" : Str) == "InvalidOrder"), .bl (("InvalidNumber" : Str) == "InvalidNumber"), .bl (("InvalidNumber" : Str) == "InvalidList"), .bl (("InvalidNumber" : Str) == "Unlike"), .bl (("InvalidNumber" : Str) == "TooMany")] = kin9 5 := by kernel_rfl
end Im
/-! The laws' own tools: what is told is new. -/
namespace Im
open PySem PySem.Spec PyProof.Rows L2
/-- a leaf -/
theorem mk0_leaf (n : Nat) (d : D) (h1 : dIsI "list" d = some (.bl false)) (h2 : dIsI "tuple" d = some (.bl false)) : F_mk0 (n + 1) [d] = .ok (.bl true) [some d, none, none] := by
  unfold F_mk0 m_mk0 runF
  simp [h1, h2]
theorem mk1_leaf (n : Nat) (d : D) (h1 : dIsI "list" d = some (.bl false)) (h2 : dIsI "tuple" d = some (.bl false)) : F_mk1 (n + 1) [d] = .ok (.bl true) [some d, none, none] := by
  unfold F_mk1 m_mk1 runF
  simp [h1, h2]
theorem markAll_ok {F : List D → FRes} {g : D → D} : ∀ ds : List D, (∀ d ∈ ds, ∃ a b, F [d] = .ok (.bl true) [some (g d), a, b]) → markAll F ds = some (ds.map fun _ => true, ds.map g)
  | [], _ => rfl
  | d :: ds, h => by
    obtain ⟨a, b, e⟩ := h d List.mem_cons_self
    rw [markAll, e]
    dsimp only [List.getElem?_cons_zero]
    rw [markAll_ok ds fun d hd => h d (List.mem_cons_of_mem _ hd)]
    rfl
theorem dIn_true (l : List D) (h : l.length ≤ 100000) : dInD true (.bl false) (.lst (l.map fun _ => D.bl true)) = some (.bl true) := by
  have e : ∀ l : List D, toPL (l.map fun _ => D.bl true) = some (l.map fun _ => PyData.bool true) := fun l => by
    induction l with
    | nil => rfl
    | cons d l ih => simp [toPL, toP, ih]
  have a : ∀ l : List D, PyData.canLayAll0 (l.map fun _ => PyData.bool true) = true := fun l => by
    induction l with
    | nil => rfl
    | cons d l ih => simp [PyData.canLayAll0, PyData.canLay0, ih]
  have b : ∀ l : List D, PyData.depthAll (l.map fun _ => PyData.bool true) = 0 := fun l => by
    induction l with
    | nil => rfl
    | cons d l ih => simp [PyData.depthAll, PyData.depth, ih]
  have c : ∀ l : List D, ((l.map fun _ => PyData.bool true).any fun y => PyData.eqv y (.bool false)) = false := fun l => by
    induction l with
    | nil => rfl
    | cons d l ih => rw [List.map_cons, List.any_cons, ih]; rfl
  unfold dInD
  simp only [toP, e, Option.map_some, a, b, c]
  rfl
/-- a tuple -/
theorem mk0_tup (n : Nat) (ds : List D) (g : D → D) (hl : ds.length ≤ 100000) (h : ∀ d ∈ ds, ∃ a b, F_mk0 n [d] = .ok (.bl true) [some (g d), a, b]) : F_mk0 (n + 1) [.tup ds] = .ok (.bl true) [some (.tup (ds.map g)), none, none] := by
  have e := markAll_ok (F := F_mk0 n) ds h
  have z := dIn_true ds hl
  have hl2 : ds.length ≤ 1000000 := by omega
  have m : mMark (F_mk0 n) .tup unT' [2] 0 [some (.tup ds), none, none] = .ok (.lst (ds.map fun _ => D.bl true)) [some (.tup (ds.map g)), none, none] := by
    unfold mMark
    simp [unT', e, hl2, Function.comp_def]
  show runF 3 [some 0] (m_mk0 (F_mk0 n)) [.tup ds] = _
  unfold m_mk0 runF
  generalize mMark (F_mk0 n) .tup unT' [2] 0 = mm at m ⊢
  simp [m, z]
/-- the last one is no mark -/
def noMk (ds : List D) : Prop := ∀ d, ds.getLast? = some d → eqD false d (.str "marked") = some (.bl false)
theorem last_ix {ds : List D} {d : D} (h : ds.getLast? = some d) : atI ds (-1) = some d := by
  have hl : ds.length ≠ 0 := by
    intro z
    rw [List.eq_nil_of_length_eq_zero z] at h
    cases h
  rw [List.getLast?_eq_getElem?] at h
  unfold atI
  have e : ixN ds.length (-1) = some (ds.length - 1) := by
    simp
    omega
  rw [e]
  exact h
theorem eqD_nil' {n w : Nat} {ds : List D} (h : Nz n w (.lst ds)) (hn : n ≤ 60) : eqD true (.lst ds) (.lst []) = some (.bl (!ds.isEmpty)) := by
  obtain ⟨p, e, hp⟩ := h
  have sh := shaped_of hp hn
  have e2 : SeqAt.shaped (.list []) = true := by decide +kernel
  cases ds with
  | nil => cases e; simp [eqD, toP, toPL, e2, PyData.eqv, PyData.eqvAll]
  | cons d ds =>
    simp only [toP, toPL, Option.map_eq_some_iff] at e
    obtain ⟨ps, e3, rfl⟩ := e
    split at e3
    · rename_i a b ea eb
      cases e3
      simp [eqD, toP, toPL, ea, eb, e2, sh, PyData.eqv, PyData.eqvAll]
    · cases e3
theorem mk1_lst (n : Nat) (ds : List D) (g : D → D) {k w : Nat} (hz : Nz k w (.lst ds)) (hk : k ≤ 60) (hl : ds.length ≤ 100000) (hm : noMk ds) (h : ∀ d ∈ ds, ∃ a b, F_mk0 n [d] = .ok (.bl true) [some (g d), a, b]) : ∃ a b, F_mk1 (n + 1) [.lst ds] = .ok (.bl true) [some (.lst (ds.map g ++ [.str "marked"])), a, b] := by
  have e := markAll_ok (F := F_mk0 n) ds h
  have z := dIn_true ds hl
  have e0 := eqD_nil' hz hk
  have hl2 : ds.length ≤ 1000000 := by omega
  have hl3 : ds.length < 1000000 := by omega
  have m : mMark (F_mk0 n) .lst unL [2] 0 [some (.lst ds), none, none] = .ok (.lst (ds.map fun _ => D.bl true)) [some (.lst (ds.map g)), none, none] := by
    unfold mMark
    simp [unL, e, hl2, Function.comp_def]
  refine ⟨none, none, ?_⟩
  show runF 3 [some 1] (m_mk1 (F_mk0 n) (F_mk1 n)) [.lst ds] = _
  unfold m_mk1 runF
  generalize mMark (F_mk0 n) .lst unL [2] 0 = mm at m ⊢
  cases ds with
  | nil => simp at m z e0; simp [e0, m, z]
  | cons d r =>
    obtain ⟨x, hx⟩ : ∃ x, (d :: r).getLast? = some x := ⟨_, List.getLast?_eq_some_getLast (by simp)⟩
    have i1 := last_ix hx
    have i2 := hm x hx
    simp at hl3
    simp only [List.map_cons] at z
    simp [e0, i1, i2, m, z, hl3]
theorem mk2_lst (n : Nat) (ds : List D) (g : D → D) {k w : Nat} (hz : Nz k w (.lst ds)) (hk : k ≤ 60) (hl : ds.length ≤ 100000) (hm : noMk ds) (h : ∀ d ∈ ds, ∃ a b, F_mk1 n [d] = .ok (.bl true) [some (g d), a, b]) : ∃ a b, F_mk2 (n + 1) [.lst ds] = .ok (.bl true) [some (.lst (ds.map g ++ [.str "marked"])), a, b] := by
  have e := markAll_ok (F := F_mk1 n) ds h
  have z := dIn_true ds hl
  have e0 := eqD_nil' hz hk
  have hl2 : ds.length ≤ 1000000 := by omega
  have hl3 : ds.length < 1000000 := by omega
  have m : mMark (F_mk1 n) .lst unL [2] 0 [some (.lst ds), none, none] = .ok (.lst (ds.map fun _ => D.bl true)) [some (.lst (ds.map g)), none, none] := by
    unfold mMark
    simp [unL, e, hl2, Function.comp_def]
  refine ⟨none, none, ?_⟩
  show runF 3 [some 2] (m_mk2 (F_mk1 n) (F_mk2 n)) [.lst ds] = _
  unfold m_mk2 runF
  generalize mMark (F_mk1 n) .lst unL [2] 0 = mm at m ⊢
  cases ds with
  | nil => simp at m z e0; simp [e0, m, z]
  | cons d r =>
    obtain ⟨x, hx⟩ : ∃ x, (d :: r).getLast? = some x := ⟨_, List.getLast?_eq_some_getLast (by simp)⟩
    have i1 := last_ix hx
    have i2 := hm x hx
    simp at hl3
    simp only [List.map_cons] at z
    simp [e0, i1, i2, m, z, hl3]
end Im
/-! Orders, codes: in plain words. -/
namespace Im
open PySem PySem.Spec PyProof.Rows L2
/-! ### walks with numbers -/
theorem enum_get {ds : List D} {i : Nat} {d : D} (h : (enumD ds)[i]? = some d) : ∃ x, ds[i]? = some x ∧ d = .tup [.int (i : Nat), x] := by
  unfold enumD at h
  rw [List.getElem?_mapIdx] at h
  cases e : ds[i]? with
  | none => rw [e] at h; cases h
  | some x => rw [e] at h; cases h; exact ⟨x, rfl, rfl⟩
theorem loop_enum {g : D → En → Option En} {mb : SM} (I : Nat → En → Prop) (ds : List D) (en : En) (h : ∀ i d en, ds[i]? = some d → I i en → SNx (I (i + 1)) (lStep g mb (.tup [.int (i : Nat), d]) en)) (h0 : I 0 en) : ∃ en', loopM g mb (enumD ds) en = .nx en' ∧ I ds.length en' := by
  obtain ⟨en', e, i⟩ := loop_inv (g := g) (mb := mb) I (enumD ds) 0 en (fun i d en hd hi => by
    obtain ⟨x, hx, rfl⟩ := enum_get hd
    rw [Nat.zero_add] at hi ⊢
    exact h i x en hx hi) h0
  rw [show (enumD ds).length = ds.length by simp [enumD], Nat.zero_add] at i
  exact ⟨en', e, i⟩
def sufM {β : Type} (h : Int → List Int → β) : List Int → List β
  | [] => []
  | x :: r => h x r :: sufM h r
theorem sufM_len {β : Type} (h : Int → List Int → β) : ∀ xs, (sufM h xs).length = xs.length
  | [] => rfl
  | x :: r => by simp [sufM, sufM_len h r]
theorem zip_suf {β : Type} (h : Int → List Int → β) (full : List Int) : ∀ (xs : List Int) (k : Nat), full.drop k = xs → (xs.zipIdx k).map (fun p => h p.1 (full.drop (p.2 + 1))) = sufM h xs
  | [], k, _ => rfl
  | x :: r, k, e => by
    have e2 : full.drop (k + 1) = r := by
      rw [← List.drop_drop, e]
      rfl
    rw [List.zipIdx_cons, List.map_cons, zip_suf h full r (k + 1) e2, e2]
    rfl
theorem enum_ints (xs : List Int) : enumD (xs.map D.int) = xs.zipIdx.map fun p => D.tup [.int (p.2 : Nat), .int p.1] := by
  unfold enumD
  rw [List.mapIdx_eq_zipIdx_map, List.zipIdx_map, List.map_map]
  rfl
/-- [e for at, x in enumerate(xs)] -/
theorem comp_enum {g : D → En → Option En} {mt me : EM} {vs : List Nat} {en : En} {β : Type} (h : Int → List Int → β) (enc : β → D) (xs : List Int) (hl : xs.length ≤ lim) (hs : ∀ (i : Nat) (x : Int), xs[i]? = some x → cStep g mt me vs (.tup [.int (i : Nat), .int x]) en = some (some (enc (h x (xs.drop (i + 1)))), en)) : compM g mt me vs (enumD (xs.map D.int)) [] en = .ok (.lst ((sufM h xs).map enc)) en := by
  rw [enum_ints, comp_map (fun p : Int × Nat => D.tup [.int (p.2 : Nat), .int p.1]) (fun p => enc (h p.1 (xs.drop (p.2 + 1)))) xs.zipIdx (by simpa using hl) fun p hp => ?_]
  · rw [← zip_suf h xs xs 0 rfl, List.map_map]
    rfl
  · obtain ⟨x, i⟩ := p
    have q := List.mem_zipIdx_iff_getElem?.mp hp
    exact hs i x q
theorem cut_from (xs : List D) (i : Nat) : cutL xs (some ((i : Int) + 1)) none = xs.drop (i + 1) := by
  unfold cutL
  rw [show ((i : Int) + 1) = ((i + 1 : Nat) : Int) by omega, HT.sIx_nat, HT.sIx_none]
  by_cases h : i + 1 ≤ xs.length
  · rw [Nat.min_eq_left h, List.take_of_length_le (by simp)]
  · rw [Nat.min_eq_right (by omega), List.drop_eq_nil_of_le (Nat.le_refl _), List.drop_eq_nil_of_le (by omega)]
    rw [List.take_nil]
theorem cut_to (xs : List D) (i : Nat) : cutL xs none (some (i : Int)) = xs.take i := by
  unfold cutL
  rw [HT.sIx_nat, HT.sIx_none, List.drop_zero, Nat.sub_zero]
  by_cases h : i ≤ xs.length
  · rw [Nat.min_eq_left h]
  · rw [Nat.min_eq_right (by omega), List.take_of_length_le (Nat.le_refl _), List.take_of_length_le (by omega)]
/-! ### turned pairs, codes -/
def lt_ (x : Int) (r : List Int) : List Int := r.filter fun y => decide (y < x)
def cdF (x : Int) (r : List Int) : Int := (lt_ x r).length
def cd (xs : List Int) : List Int := sufM cdF xs
theorem cd_by (xs : List Int) (hl : xs.length ≤ 100) : F_code_by [il xs] = .ok (il (cd xs)) [none, none, none, none] := by
  have c := comp_enum (g := mgTup 2 (gCons (gSet 1) (gCons (gSet 2) gNil))) (mt := mC (.bl true)) (me := m1 dLen (mLc (mIt dItems (mSl (mVar 0) (mpS (mB dAddX (mVarS 1) (mC (.int 1)))) mpN)) (gSet 3) (mB dLt (mVar 3) (mVar 2)) (mVar 3) [3])) (vs := [1, 2]) (en := [some (il xs), none, none, none]) cdF D.int xs (by simp [-y_lim, lim]; omega) (fun i x hx => by
    have c := comp_flt (g := gSet 3) (mt := mB dLt (mVar 3) (mVar 2)) (me := mVar 3) (vs := [3]) (en := [some (il xs), some (.int (i : Nat)), some (.int x), none]) D.int (fun y => decide (y < x)) D.int (xs.drop (i + 1)) (by simp [-y_lim, lim]; omega) (fun y hy => by
      by_cases hyx : y < x <;> simp [hyx])
    simp only [List.map_drop] at c
    simp [cut_from, c, cdF, lt_])
  unfold F_code_by runF m_code_by
  simp [c, cd]
end Im
/-! Orders with codes. -/
namespace Im
open PySem PySem.Spec PyProof.Rows L2
/-! ### the code of an order, the order with a code -/
def Cod : List Int → Prop
  | [] => True
  | c :: r => 0 ≤ c ∧ c ≤ r.length ∧ Cod r
def ow : List Int → List Int → List Int
  | [], _ => []
  | c :: cs, left => left.getD c.toNat 0 :: ow cs (left.eraseIdx c.toNat)
abbrev Srt (l : List Int) : Prop := l.Pairwise (· < ·)
theorem rank {x : Int} : ∀ {l : List Int}, Srt l → x ∈ l → l[(lt_ x l).length]? = some x
  | [], _, h => nomatch h
  | a :: l, s, h => by
    obtain ⟨s1, s2⟩ := List.pairwise_cons.mp s
    rcases List.mem_cons.mp h with rfl | h
    · have : lt_ x (x :: l) = [] := by
        unfold lt_
        rw [List.filter_eq_nil_iff]
        intro y hy
        rcases List.mem_cons.mp hy with rfl | hy
        · simp
        · have := s1 y hy
          simp; omega
      rw [this]; rfl
    · have ha := s1 x h
      have : lt_ x (a :: l) = a :: lt_ x l := by
        unfold lt_
        rw [List.filter_cons, if_pos (by simpa using ha)]
      rw [this, List.length_cons, List.getElem?_cons_succ]
      exact rank s2 h
theorem lt_perm {l m : List Int} (x : Int) (h : l.Perm m) : (lt_ x l).length = (lt_ x m).length := (h.filter _).length_eq
theorem lt_self (x : Int) (l : List Int) : (lt_ x (x :: l)).length = (lt_ x l).length := by simp [lt_]
theorem cd_cod : ∀ xs : List Int, Cod (cd xs)
  | [] => trivial
  | x :: r => by
    refine ⟨by show (0 : Int) ≤ cdF x r; unfold cdF; omega, ?_, cd_cod r⟩
    show cdF x r ≤ ((sufM cdF r).length : Int)
    rw [sufM_len]
    have : (lt_ x r).length ≤ r.length := List.length_filter_le _ _
    unfold cdF
    omega
theorem cd_len (xs : List Int) : (cd xs).length = xs.length := sufM_len _ _
theorem ow_cd : ∀ {xs left : List Int}, Srt left → left.Perm xs → ow (cd xs) left = xs
  | [], left, _, h => rfl
  | x :: r, left, s, h => by
    have hx : x ∈ left := h.mem_iff.mpr List.mem_cons_self
    have e1 : (lt_ x left).length = (lt_ x r).length := by rw [lt_perm x h, lt_self]
    have k := rank s hx
    rw [e1] at k
    have hl := (List.getElem?_eq_some_iff.mp k).1
    have hv := (List.getElem?_eq_some_iff.mp k).2
    have et : (cdF x r).toNat = (lt_ x r).length := by unfold cdF; omega
    show left.getD (cdF x r).toNat 0 :: ow (cd r) (left.eraseIdx (cdF x r).toNat) = _
    rw [et]
    have p2 : (left.eraseIdx (lt_ x r).length).Perm r := by
      have q := (erase_perm hl).trans h
      rw [hv] at q
      exact q.cons_inv
    rw [ow_cd (s.sublist (List.eraseIdx_sublist _ _)) p2, List.getD_eq_getElem?_getD, k]
    rfl
theorem ow_perm : ∀ {cs left : List Int}, Cod cs → left.length = cs.length → (ow cs left).Perm left
  | [], left, _, h => by rw [List.eq_nil_of_length_eq_zero h]; exact .refl _
  | c :: cs, left, ⟨h0, h1, h2⟩, h => by
    simp only [List.length_cons] at h
    have hl : c.toNat < left.length := by omega
    have e : left.getD c.toNat 0 = left[c.toNat] := by rw [List.getD_eq_getElem?_getD, List.getElem?_eq_getElem hl]; rfl
    show (left.getD c.toNat 0 :: ow cs (left.eraseIdx c.toNat)).Perm left
    rw [e]
    exact ((ow_perm h2 (by rw [List.length_eraseIdx_of_lt hl]; omega)).cons _).trans (erase_perm hl)
theorem ow_len : ∀ (cs left : List Int), (ow cs left).length = cs.length
  | [], _ => rfl
  | c :: cs, left => by
    show (ow cs _).length + 1 = _
    rw [ow_len cs]
    rfl
theorem cd_ow : ∀ {cs left : List Int}, Cod cs → left.length = cs.length → Srt left → cd (ow cs left) = cs
  | [], left, _, h, _ => rfl
  | c :: cs, left, ⟨h0, h1, h2⟩, h, s => by
    simp only [List.length_cons] at h
    have hl : c.toNat < left.length := by omega
    have e : left.getD c.toNat 0 = left[c.toNat] := by rw [List.getD_eq_getElem?_getD, List.getElem?_eq_getElem hl]; rfl
    have le : (left.eraseIdx c.toNat).length = cs.length := by rw [List.length_eraseIdx_of_lt hl]; omega
    show cdF (left.getD c.toNat 0) (ow cs (left.eraseIdx c.toNat)) :: cd (ow cs (left.eraseIdx c.toNat)) = _
    rw [cd_ow h2 le (s.sublist (List.eraseIdx_sublist _ _)), e]
    congr 1
    unfold cdF
    rw [lt_perm _ (ow_perm h2 le), ← lt_self, lt_perm _ (erase_perm hl)]
    have k := rank s (List.getElem_mem hl)
    have hl2 := (List.getElem?_eq_some_iff.mp k).1
    have hv := (List.getElem?_eq_some_iff.mp k).2
    have key : (lt_ left[c.toNat] left).length = c.toNat := by
      rcases Nat.lt_trichotomy (lt_ left[c.toNat] left).length c.toNat with q | q | q
      · have := List.pairwise_iff_getElem.mp s _ _ hl2 hl q
        omega
      · exact q
      · have := List.pairwise_iff_getElem.mp s _ _ hl hl2 q
        omega
    omega
/-! ### what is an order -/
@[simp] theorem whole_int (i : Int) : F_is_whole [.int i] = .ok (.bl true) [none] := by rfl
@[simp] theorem count_int (i : Int) : F_is_count [.int i] = .ok (.bl (decide (0 ≤ i))) [none] := by
  unfold F_is_count runF m_is_count
  simp
@[simp] theorem letter_int (i : Int) : F_is_letter [.int i] = .ok (.bl (decide (1 ≤ i) && decide (i ≤ 20))) [none] := by
  unfold F_is_letter runF m_is_letter
  by_cases h : 1 ≤ i <;> simp [h]
theorem word_by (xs : List Int) (hl : xs.length ≤ 100000) : F_is_word_by [il xs] = .ok (.bl (decide (xs.length ≤ 12) && xs.all fun x => decide (1 ≤ x) && decide (x ≤ 20))) [none, none] := by
  have c := comp_map (g := gSet 1) (mt := mC (.bl true)) (me := mCall F_is_letter [0] (mCons (mVar 1) mNil)) (vs := [1]) (en := [some (il xs), none]) D.int (fun x => D.bl (decide (1 ≤ x) && decide (x ≤ 20))) xs (by simp [-y_lim, lim]; omega) (fun x hx => by simp)
  have e : dAll (.lst (xs.map fun x => D.bl (decide (1 ≤ x) && decide (x ≤ 20)))) = some (.bl (xs.all fun x => decide (1 ≤ x) && decide (x ≤ 20))) := by
    have := y_dAll (xs.map fun x => decide (1 ≤ x) && decide (x ≤ 20))
    rw [List.map_map] at this
    rw [show (fun x : Int => D.bl (decide (1 ≤ x) && decide (x ≤ 20))) = D.bl ∘ fun x => decide (1 ≤ x) && decide (x ≤ 20) from rfl, this, List.all_map]
    rfl
  unfold F_is_word_by runF m_is_word_by
  by_cases h : xs.length ≤ 12
  · have h' : (xs.length : Int) ≤ 12 := by omega
    simp [h, h', c, e]
  · have h' : ¬ (xs.length : Int) ≤ 12 := by omega
    simp [h, h']
theorem canlay_ints : ∀ is : List Int, PyData.canLayAll0 (is.map PyData.int) = true
  | [] => rfl
  | i :: is => by simp [PyData.canLayAll0, PyData.canLay0, canlay_ints is]
theorem depth_ints : ∀ is : List Int, PyData.depthAll (is.map PyData.int) = 0
  | [] => rfl
  | i :: is => by simp [PyData.depthAll, PyData.depth, depth_ints is]
theorem toPL_ints : ∀ is : List Int, toPL (is.map D.int) = some (is.map PyData.int)
  | [] => rfl
  | i :: is => by simp [toPL, toP, toPL_ints is]
theorem eqvAll_ints : ∀ xs ys : List Int, PyData.eqvAll (xs.map PyData.int) (ys.map PyData.int) = decide (xs = ys)
  | [], [] => rfl
  | [], _ :: _ => by simp [PyData.eqvAll]
  | _ :: _, [] => by simp [PyData.eqvAll]
  | x :: xs, y :: ys => by
    simp only [List.map_cons, PyData.eqvAll, PyData.eqv, eqvAll_ints xs ys]
    by_cases h : x = y <;> by_cases h2 : xs = ys <;> simp [h, h2]
theorem eqD_il (b : Bool) (xs ys : List Int) : eqD b (il xs) (il ys) = some (.bl (if b then !decide (xs = ys) else decide (xs = ys))) := by
  simp only [eqD, toP, toPL_ints, Option.map_some, SeqAt.shaped, PyData.canLay0, canlay_ints, PyData.depth, depth_ints, PyData.eqv, eqvAll_ints]
  simp
theorem up1_le (n : Nat) : (up1 n).Pairwise (· ≤ ·) := (up1_lt n).imp fun h => by omega
theorem srt_up {xs : List Int} {n : Nat} (p : xs.Perm (up1 n)) : srtB leI xs = up1 n := (srtI_one p.symm (up1_le n)).symm
theorem rg_ok (j : Int) (h0 : 0 ≤ j) (h1 : j ≤ 1000) : dRgL (.int 1) (.int j) = some (.lst (rgL 1 j)) := by
  have : j ≤ 16777216 := Int.le_trans h1 (by decide)
  rw [y_dRgL, if_pos ⟨by decide, by decide, h0, this⟩]
theorem rg_len {n : Nat} {m : Int} (h : m = (n : Int)) (hn : n ≤ 12) : dRgL (.int 1) (.int (m + 1)) = some (il (up1 n)) := by
  rw [rg_ok _ (by omega) (by omega), rgL_up n _ (by omega)]
theorem len_il (xs : List Int) : ∃ m : Int, dLen (il xs) = some (.int m) ∧ m = (xs.length : Int) := ⟨_, rfl, by simp⟩
theorem runF_rt {n : Nat} {io : List (Option Nat)} {m : SM} {ds : List D} {en0 en' : En} {d : D} (h : m en0 = .rt d en') (he : ds.map some ++ List.replicate (n - ds.length) none = en0 := by rfl) : runF n io m ds = .ok d (maskE io en') := by
  unfold runF
  rw [he, h]
theorem order_st (xs up : List Int) (rg : D → D → Option D) (ln : D → Option D) (W : List D → FRes) (m : Int) (w : W [il xs] = .ok (.bl true) [none, none]) (e3 : srtB leI xs = up) (em : ln (il xs) = some (.int m)) (e4 : rg (.int 1) (.int (m + 1)) = some (il up)) (e5 : eqD false (il up) (il up) = some (.bl true)) : mRet [none] (mAnd (mCall W [0] (mCons (mVar 0) mNil)) (mB (eqD false) (m1 dSorted (mVar 0)) (mB rg (mC (.int 1)) (mB dAddX (m1 ln (mVar 0)) (mC (.int 1)))))) [some (il xs)] = .rt (.bl true) [none] := by
  simp [w, e3, e4, e5, em]
theorem eqD_il1 (xs : List Int) : eqD false (il xs) (il xs) = some (.bl true) := by
  rw [eqD_il]
  simp
theorem order_by {xs : List Int} {n : Nat} (p : xs.Perm (up1 n)) (hn : n ≤ 12) : F_is_order_by [il xs] = .ok (.bl true) [none] := by
  have hl : xs.length = n := by rw [p.length_eq, up1_len]
  have w := word_by xs (by omega)
  have e1 : decide (xs.length ≤ 12) = true := decide_eq_true (by omega)
  have e2 : (xs.all fun x => decide (1 ≤ x) && decide (x ≤ 20)) = true := by
    rw [List.all_eq_true]
    intro x hx
    have := up1_mem.mp (p.mem_iff.mp hx)
    rw [decide_eq_true (by omega), decide_eq_true (by omega)]
    rfl
  rw [e1, e2] at w
  obtain ⟨m, em, hm⟩ := len_il xs
  exact runF_rt (order_st xs (up1 n) dRgL dLen F_is_word_by m w (srt_up p) em (rg_len (by omega) hn) (eqD_il1 _))
theorem check_ok {xs : List Int} {n : Nat} (p : xs.Perm (up1 n)) (hn : n ≤ 12) : F_check_order [il xs] = .ok .non [none] := by
  have h := order_by p hn
  unfold F_check_order runF m_check_order
  simp [h]
/-! ### the order with a code -/
theorem ow_loop (code : D) (a b : Option D) : ∀ (cs left found : List Int) (z : Option D), Cod cs → left.length = cs.length → found.length + cs.length ≤ 1000 → ∃ l2 z2,
    loopM (gSet 3) (mSeq (mDrop (mAppend 2 (mB dIx (mVar 1) (mVar 3)))) (mSet 1 (mB dCat (mSl (mVar 1) mpN (mpS (mVar 3))) (mSl (mVar 1) (mpS (mB dAddX (mVar 3) (mC (.int 1)))) mpN)))) (cs.map D.int) [some code, some (il left), some (il found), z, b] = .nx [some code, some l2, some (il (found ++ ow cs left)), z2, b]
  | [], left, found, z, _, _, _ => ⟨il left, z, by simp [ow]⟩
  | c :: cs, left, found, z, ⟨h0, h1, h2⟩, h, hz => by
    simp only [List.length_cons] at h hz
    have hl : c.toNat < left.length := by omega
    have e : left.getD c.toNat 0 = left[c.toNat] := by rw [List.getD_eq_getElem?_getD, List.getElem?_eq_getElem hl]; rfl
    obtain ⟨l2, z2, ih⟩ := ow_loop code a b cs (left.eraseIdx c.toNat) (found ++ [left[c.toNat]]) (some (.int c)) h2 (by rw [List.length_eraseIdx_of_lt hl]; omega) (by simp; omega)
    refine ⟨l2, z2, ?_⟩
    rw [List.map_cons, loop_cons]
    have ec : c = (c.toNat : Int) := by omega
    generalize c.toNat = n at ec hl e ih
    subst ec
    have i1 : atI (left.map D.int) (n : Int) = some (.int left[n]) := by
      rw [atI_nat, List.getElem?_map, List.getElem?_eq_getElem hl]; rfl
    have i2 : found.length < 1000000 := by omega
    have i3 : (left.take n ++ left.drop (n + 1)) = left.eraseIdx n := by rw [List.eraseIdx_eq_take_drop_succ]
    have i4 : (left.map D.int).take n ++ (left.map D.int).drop (n + 1) = (left.eraseIdx n).map D.int := by rw [← i3, List.map_append, List.map_take, List.map_drop]
    have i5 : min n left.length + (left.length - (n + 1)) ≤ 1000000 := by omega
    have eo : found ++ left.getD n 0 :: ow cs (left.eraseIdx n) = (found ++ [left[n]]) ++ ow cs (left.eraseIdx n) := by rw [e]; simp
    show _ = SRes.nx [some code, some l2, some (il (found ++ left.getD n 0 :: ow cs (left.eraseIdx n))), z2, b]
    rw [eo, ← ih]
    have st : lStep (gSet 3) (mSeq (mDrop (mAppend 2 (mB dIx (mVar 1) (mVar 3)))) (mSet 1 (mB dCat (mSl (mVar 1) mpN (mpS (mVar 3))) (mSl (mVar 1) (mpS (mB dAddX (mVar 3) (mC (.int 1)))) mpN)))) (.int (n : Int)) [some code, some (il left), some (il found), z, b] = .nx [some code, some (il (left.eraseIdx n)), some (il (found ++ [left[n]])), some (.int (n : Int)), b] := by
      simp [-List.map_take, -List.map_drop, i1, i2, cut_from, cut_to, i4, i5]
    rw [st]
end Im
/-! The order with a code: told, refused. -/
namespace Im
open PySem PySem.Spec PyProof.Rows L2
theorem law_cd_eq : F__law_code = F_code_by := rfl
abbrev owA : EM := m1 dAll (mLc (mIt dItems (mVar 0)) (gSet 3) (mC (.bl true)) (mCall F_is_count [0] (mCons (mVar 3) mNil)) [3])
abbrev owB : EM := m1 dAny (mLc (mIt dLst (mVar 0)) (mgTup 2 (gCons (gSet 4) (gCons (gSet 3) gNil))) (mC (.bl true)) (mB dGe (mVar 3) (mB dSub (m1 dLen (mVar 0)) (mVarS 4))) [4, 3])
theorem cod_pos : ∀ {cs : List Int}, Cod cs → ∀ c ∈ cs, 0 ≤ c
  | c :: cs, ⟨h0, _, h2⟩, x, hx => by
    rcases List.mem_cons.mp hx with rfl | hx
    · exact h0
    · exact cod_pos h2 x hx
theorem cod_at : ∀ {cs : List Int} {i : Nat} {c : Int}, Cod cs → cs[i]? = some c → c < (cs.length : Int) - i
  | c :: cs, 0, x, ⟨_, h1, _⟩, e => by
    cases e
    simp only [List.length_cons]
    omega
  | c :: cs, i + 1, x, ⟨_, _, h2⟩, e => by
    have := cod_at h2 (i := i) (by simpa using e)
    simp only [List.length_cons]
    omega
theorem owA_ok (cs : List Int) (hl : cs.length ≤ 100) : owA [some (il cs), none, none, none, none] = .ok (.bl (cs.all fun c => decide (0 ≤ c))) [some (il cs), none, none, none, none] := by
  have c := comp_map (g := gSet 3) (mt := mC (.bl true)) (me := mCall F_is_count [0] (mCons (mVar 3) mNil)) (vs := [3]) (en := [some (il cs), none, none, none, none]) D.int (fun x => D.bl (decide (0 ≤ x))) cs (by simp [-y_lim, lim]; omega) (fun x hx => by simp)
  have e : dAll (.lst (cs.map fun x => D.bl (decide (0 ≤ x)))) = some (.bl (cs.all fun x => decide (0 ≤ x))) := by
    have := y_dAll (cs.map fun x => decide (0 ≤ x))
    rw [List.map_map] at this
    rw [show (fun x : Int => D.bl (decide (0 ≤ x))) = D.bl ∘ fun x => decide (0 ≤ x) from rfl, this, List.all_map]
    rfl
  simp [c, e]
theorem owB_ok (cs : List Int) (hl : cs.length ≤ 100) (h : ∀ (i : Nat) (c : Int), cs[i]? = some c → c < (cs.length : Int) - i) : owB [some (il cs), none, none, none, none] = .ok (.bl false) [some (il cs), none, none, none, none] := by
  have c := comp_enum (g := mgTup 2 (gCons (gSet 4) (gCons (gSet 3) gNil))) (mt := mC (.bl true)) (me := mB dGe (mVar 3) (mB dSub (m1 dLen (mVar 0)) (mVarS 4))) (vs := [4, 3]) (en := [some (il cs), none, none, none, none]) (fun _ _ => false) D.bl cs (by simp [-y_lim, lim]; omega) (fun i x hx => by
    have := h i x hx
    simp
    omega)
  have e : ∀ xs : List Int, (sufM (fun _ _ => false) xs).any id = false := fun xs => by
    induction xs with
    | nil => rfl
    | cons x r ih => simp [sufM] at ih ⊢; exact ih
  simp [c, e]
theorem ow_st (cs : List Int) (A B : EM) (F : SM) (l2 : D) (z2 : Option D) (m : Int) (up fo : List Int) (rg : D → D → Option D) (ln : D → Option D) (em : ln (il cs) = some (.int m)) (hm : m ≤ 12)
    (hA : A [some (il cs), none, none, none, none] = .ok (.bl true) [some (il cs), none, none, none, none]) (hB : B [some (il cs), none, none, none, none] = .ok (.bl false) [some (il cs), none, none, none, none])
    (e4 : rg (.int 1) (.int (m + 1)) = some (il up)) (hF : F [some (il cs), some (il up), some (.lst []), none, none] = .nx [some (il cs), some l2, some (il fo), z2, none]) :
    mSeq (mIfS (mOr (mNot (m1 (dIsI "list") (mVar 0))) (mOr (mB dGt (m1 ln (mVar 0)) (mC (.int 12))) (mNot A))) (mRaise "InvalidList" (mVar 0)) mPass)
      (mSeq (mIfS B (mRaise "InvalidList" (mVar 0)) mPass)
      (mSeq (mPar 1 2 (mCons (mB rg (mC (.int 1)) (mB dAddX (m1 ln (mVar 0)) (mC (.int 1)))) (mCons (mLst mNil) mNil)))
      (mSeq F (mRet [none] (mMove 2))))) [some (il cs), none, none, none, none] = .rt (il fo) (maskE [none] [some (il cs), some l2, none, z2, none]) := by
  have h12 : ¬ 12 < m := by omega
  simp [hA, hB, em, h12, e4, hF]
theorem with_ok {cs : List Int} (h : Cod cs) (hl : cs.length ≤ 12) : F_order_with [il cs] = .ok (il (ow cs (up1 cs.length))) [none, none, none, none, none] := by
  obtain ⟨l2, z2, e⟩ := ow_loop (il cs) none none cs (up1 cs.length) [] none h (up1_len _) (by simp; omega)
  obtain ⟨m, em, hm⟩ := len_il cs
  have hA := owA_ok cs (by omega)
  rw [show (cs.all fun c => decide (0 ≤ c)) = true from List.all_eq_true.mpr fun c hc => decide_eq_true (cod_pos h c hc)] at hA
  have hB := owB_ok cs (by omega) fun i c => cod_at h
  rw [List.nil_append] at e
  have := ow_st cs owA owB (mFor (mIt dItems (mVar 0)) (gSet 3) (mSeq (mDrop (mAppend 2 (mB dIx (mVar 1) (mVar 3)))) (mSet 1 (mB dCat (mSl (mVar 1) mpN (mpS (mVar 3))) (mSl (mVar 1) (mpS (mB dAddX (mVar 3) (mC (.int 1)))) mpN))))) l2 z2 m (up1 cs.length) (ow cs (up1 cs.length)) dRgL dLen em (by omega) hA hB (rg_len (by omega) hl) (by
    rw [x_mFor]
    exact e)
  exact (runF_rt this).trans (by simp)
/-! ### refused -/
theorem runF_exc {n : Nat} {io : List (Option Nat)} {m : SM} {ds : List D} {en0 : En} {c : Str} {d : D} (h : m en0 = .exc c d) (he : ds.map some ++ List.replicate (n - ds.length) none = en0 := by rfl) : runF n io m ds = .exc c d := by
  unfold runF
  rw [he, h]
/-- not a list of counts, or too long -/
theorem with_no (v : D) (h : (mOr (mNot (m1 (dIsI "list") (mVar 0))) (mOr (mB dGt (m1 dLen (mVar 0)) (mC (.int 12))) (mNot owA))) [some v, none, none, none, none] = .ok (.bl true) [some v, none, none, none, none]) : F_order_with [v] = .exc "InvalidList" v := by
  refine runF_exc (en0 := [some v, none, none, none, none]) ?_
  show (match mIfS _ _ _ _ with | .nx en' => _ | r => r) = _
  rw [x_mIfS, h]
  rfl
/-- counts, but one too great -/
theorem with_no2 (cs : List Int) (hl : cs.length ≤ 12) (h0 : ∀ c ∈ cs, 0 ≤ c) (h : owB [some (il cs), none, none, none, none] = .ok (.bl true) [some (il cs), none, none, none, none]) : F_order_with [il cs] = .exc "InvalidList" (il cs) := by
  have hA := owA_ok cs (by omega)
  rw [show (cs.all fun c => decide (0 ≤ c)) = true from List.all_eq_true.mpr fun c hc => decide_eq_true (h0 c hc)] at hA
  have h1 : (mOr (mNot (m1 (dIsI "list") (mVar 0))) (mOr (mB dGt (m1 dLen (mVar 0)) (mC (.int 12))) (mNot owA))) [some (il cs), none, none, none, none] = .ok (.bl false) [some (il cs), none, none, none, none] := by
    have h12 : ¬ (12 : Int) < cs.length := by omega
    generalize owA = A at hA ⊢
    simp [hA, h12]
  refine runF_exc (en0 := [some (il cs), none, none, none, none]) ?_
  show (match mIfS (mOr (mNot (m1 (dIsI "list") (mVar 0))) (mOr (mB dGt (m1 dLen (mVar 0)) (mC (.int 12))) (mNot owA))) _ _ _ with | .nx en' => mSeq (mIfS owB _ _) _ en' | r => r) = _
  rw [x_mIfS, h1]
  show (match mIfS owB _ _ _ with | .nx en' => _ | r => r) = _
  rw [x_mIfS, h]
  rfl
end Im
/-! Positions. -/
namespace Im
open PySem PySem.Spec PyProof.Rows L2
def fct : Nat → Int
  | 0 => 1
  | k + 1 => fct k * ((k : Int) + 1)
theorem fct_pos : ∀ k, 0 < fct k
  | 0 => by decide
  | k + 1 => Int.mul_pos (fct_pos k) (by omega)
theorem fct_12 : ∀ k, k < 13 → fct k < 1073741824 := by decide +kernel
def psn : List Int → Int
  | [] => 0
  | c :: r => c * fct r.length + psn r
theorem psn_lt : ∀ {cs : List Int}, Cod cs → 0 ≤ psn cs ∧ psn cs < fct cs.length
  | [], _ => by decide
  | c :: r, ⟨h0, h1, h2⟩ => by
    have ih := psn_lt h2
    have p := fct_pos r.length
    have a : 0 ≤ c * fct r.length := Int.mul_nonneg h0 (by omega)
    have b : c * fct r.length ≤ (r.length : Int) * fct r.length := Int.mul_le_mul_of_nonneg_right h1 (by omega)
    simp only [psn, List.length_cons, fct, Int.mul_add, Int.mul_one]
    rw [Int.mul_comm (fct r.length)]
    generalize (r.length : Int) * fct r.length = z at b ⊢
    generalize c * fct r.length = y at a b ⊢
    omega
theorem psn_div {c : Int} {r : List Int} (h : Cod (c :: r)) : (psn (c :: r)).fdiv (fct r.length) = c := by
  have ih := psn_lt h.2.2
  have p := fct_pos r.length
  show (c * fct r.length + psn r).fdiv _ = _
  generalize fct r.length = u at ih p ⊢
  rw [Int.fdiv_eq_ediv_of_nonneg _ (by omega), Int.add_comm, Int.add_mul_ediv_right _ _ (by omega), Int.ediv_eq_zero_of_lt ih.1 ih.2, Int.zero_add]
/-! ### products -/
def prI : Int → List Int → Int
  | a, [] => a
  | a, x :: r => prI (a * x) r
theorem prI_snoc : ∀ (l : List Int) (a x : Int), prI a (l ++ [x]) = prI a l * x
  | [], a, x => rfl
  | y :: l, a, x => prI_snoc l (a * y) x
theorem up1_succ (k : Nat) : up1 (k + 1) = up1 k ++ [(k : Int) + 1] := by
  unfold up1
  rw [List.range_succ, List.map_append, List.map_singleton, Int.add_comm 1]
theorem prI_up : ∀ k, prI 1 (up1 k) = fct k
  | 0 => rfl
  | k + 1 => by rw [up1_succ, prI_snoc, prI_up k]; rfl
theorem pr_loop (a : Option D) : ∀ (xs : List Int) (acc : Int) (z : Option D), (∀ x ∈ xs, 0 ≤ x ∧ x ≤ 1000) → ∃ z', loopM (gSet 2) (mSet 1 (mB dMulX (mVarS 1) (mVar 2))) (xs.map D.int) [a, some (.int acc), z] = .nx [a, some (.int (prI acc xs)), z']
  | [], acc, z, _ => ⟨z, by simp [prI]⟩
  | x :: r, acc, z, h => by
    obtain ⟨z', ih⟩ := pr_loop a r (acc * x) (some (.int x)) (fun y hy => h y (List.mem_cons_of_mem _ hy))
    refine ⟨z', ?_⟩
    have hx := h x List.mem_cons_self
    have h1 : -18446744073709551616 < x := by omega
    have h2 : x < 18446744073709551616 := by omega
    rw [List.map_cons, loop_cons]
    have st : lStep (gSet 2) (mSet 1 (mB dMulX (mVarS 1) (mVar 2))) (.int x) [a, some (.int acc), z] = .nx [a, some (.int (acc * x)), some (.int x)] := by
      simp [h1, h2]
    rw [st]
    exact ih
theorem prod_ok (k : Nat) (hk : k ≤ 100) : F_whole_product [il (up1 k)] = .ok (.int (fct k)) [none, none, none] := by
  obtain ⟨z, e⟩ := pr_loop (some (il (up1 k))) (up1 k) 1 none (fun x hx => by
    have := up1_mem.mp hx
    omega)
  rw [prI_up] at e
  unfold F_whole_product runF m_whole_product
  generalize mSet 1 (mB dMulX (mVarS 1) (mVar 2)) = body at e ⊢
  simp [e]
theorem law_prod_eq : F__law_product = F_whole_product := rfl
theorem rg_k (k : Nat) (hk : k ≤ 100) : dRgL (.int 1) (.int ((k : Int) + 1)) = some (il (up1 k)) := by
  rw [rg_ok _ (by omega) (by omega), rgL_up k _ rfl]
theorem fact_ok (k : Nat) (hk : k ≤ 100) : F__law_factorial [.int (k : Nat)] = .ok (.int (fct k)) [none] := by
  have st : ∀ (rg : D → D → Option D) (wp : List D → FRes), rg (.int 1) (.int ((k : Int) + 1)) = some (il (up1 k)) → wp [il (up1 k)] = .ok (.int (fct k)) [none, none, none] → mRet [none] (mCall wp [0] (mCons (mB rg (mC (.int 1)) (mB dAddX (mVarS 0) (mC (.int 1)))) mNil)) [some (.int (k : Nat))] = .rt (.int (fct k)) [none] := by
    intro rg wp h1 h2
    simp [h1, h2]
  exact runF_rt (st dRgL F__law_product (rg_k k hk) (prod_ok k hk))
/-! ### the position of an order -/
theorem pos_loop (x0 : D) (n : Nat) (m : Int) (hm : m = (n : Int)) (hn : n ≤ 12) (rg : D → D → Option D) (ln : D → Option D) (wp : List D → FRes) (hr : ∀ k : Nat, k ≤ 100 → rg (.int 1) (.int ((k : Int) + 1)) = some (il (up1 k))) (hw : ∀ k : Nat, k ≤ 100 → wp [il (up1 k)] = .ok (.int (fct k)) [none, none, none]) (hl : ln x0 = some (.int m)) (cs : List Int) (hc : Cod cs) (hcl : cs.length = n) :
    ∃ a b, loopM (mgTup 2 (gCons (gSet 2) (gCons (gSet 3) gNil))) (mSet 1 (mB dAddX (mVarS 1) (mB dMulX (mVar 3) (mCall wp [0] (mCons (mB rg (mC (.int 1)) (mB dSub (m1 ln (mVar 0)) (mVarS 2))) mNil))))) (enumD (cs.map D.int)) [some x0, some (.int 0), none, none] = .nx [some x0, some (.int (psn cs)), a, b] := by
  have key := loop_enum (g := mgTup 2 (gCons (gSet 2) (gCons (gSet 3) gNil))) (mb := mSet 1 (mB dAddX (mVarS 1) (mB dMulX (mVar 3) (mCall wp [0] (mCons (mB rg (mC (.int 1)) (mB dSub (m1 ln (mVar 0)) (mVarS 2))) mNil)))))
    (fun i en => ∃ (f : Int) (a b : Option D), en = [some x0, some (.int f), a, b] ∧ f + psn (cs.drop i) = psn cs) (cs.map D.int) [some x0, some (.int 0), none, none] (by
    rintro i d en hd ⟨f, a, b, rfl, e⟩
    rw [List.getElem?_map, Option.map_eq_some_iff] at hd
    obtain ⟨c, hc', rfl⟩ := hd
    have hi : i < cs.length := (List.getElem?_eq_some_iff.mp hc').1
    have hdr : cs.drop i = c :: cs.drop (i + 1) := by rw [List.drop_eq_getElem_cons hi, (List.getElem?_eq_some_iff.mp hc').2]
    rw [hdr] at e
    have hk : m - (i : Int) = ((n - i - 1 : Nat) : Int) + 1 := by omega
    have hk2 : (cs.drop (i + 1)).length = n - i - 1 := by rw [List.length_drop]; omega
    have r1 := hr (n - i - 1) (by omega)
    have w1 := hw (n - i - 1) (by omega)
    have c0 := cod_pos hc c (List.mem_of_getElem? hc')
    have c1 := cod_at hc hc'
    have h1 : -18446744073709551616 < c := by omega
    have h2 : c < 18446744073709551616 := by omega
    simp only [psn, hk2] at e
    generalize n - i - 1 = k at hk r1 w1 e
    simp [hl, hk, r1, w1, h1, h2]
    omega) ⟨0, none, none, rfl, by simp⟩
  obtain ⟨en, e, f, a, b, rfl, e2⟩ := key
  rw [List.length_map, List.drop_length] at e2
  have e2 : f = psn cs := by simpa [psn] using e2
  subst e2
  exact ⟨a, b, e⟩
theorem pos_loop2 (x0 : D) (n : Nat) (m : Int) (hm : m = (n : Int)) (hn : n ≤ 12) (ln : D → Option D) (wp : List D → FRes) (hw : ∀ k : Nat, k ≤ 100 → wp [.int (k : Nat)] = .ok (.int (fct k)) [none]) (hl : ln x0 = some (.int m)) (cs : List Int) (hc : Cod cs) (hcl : cs.length = n) :
    ∃ a b, loopM (mgTup 2 (gCons (gSet 2) (gCons (gSet 3) gNil))) (mSet 1 (mB dAddX (mVarS 1) (mB dMulX (mVar 3) (mCall wp [0] (mCons (mB dSub (mB dSub (m1 ln (mVar 0)) (mVarS 2)) (mC (.int 1))) mNil))))) (enumD (cs.map D.int)) [some x0, some (.int 0), none, none] = .nx [some x0, some (.int (psn cs)), a, b] := by
  have key := loop_enum (g := mgTup 2 (gCons (gSet 2) (gCons (gSet 3) gNil))) (mb := mSet 1 (mB dAddX (mVarS 1) (mB dMulX (mVar 3) (mCall wp [0] (mCons (mB dSub (mB dSub (m1 ln (mVar 0)) (mVarS 2)) (mC (.int 1))) mNil)))))
    (fun i en => ∃ (f : Int) (a b : Option D), en = [some x0, some (.int f), a, b] ∧ f + psn (cs.drop i) = psn cs) (cs.map D.int) [some x0, some (.int 0), none, none] (by
    rintro i d en hd ⟨f, a, b, rfl, e⟩
    rw [List.getElem?_map, Option.map_eq_some_iff] at hd
    obtain ⟨c, hc', rfl⟩ := hd
    have hi : i < cs.length := (List.getElem?_eq_some_iff.mp hc').1
    have hdr : cs.drop i = c :: cs.drop (i + 1) := by rw [List.drop_eq_getElem_cons hi, (List.getElem?_eq_some_iff.mp hc').2]
    rw [hdr] at e
    have hk : m - (i : Int) - 1 = ((n - i - 1 : Nat) : Int) := by omega
    have hk2 : (cs.drop (i + 1)).length = n - i - 1 := by rw [List.length_drop]; omega
    have w1 := hw (n - i - 1) (by omega)
    have c0 := cod_pos hc c (List.mem_of_getElem? hc')
    have c1 := cod_at hc hc'
    have h1 : -18446744073709551616 < c := by omega
    have h2 : c < 18446744073709551616 := by omega
    simp only [psn, hk2] at e
    generalize n - i - 1 = k at hk w1 e
    simp [hl, hk, w1, h1, h2]
    omega) ⟨0, none, none, rfl, by simp⟩
  obtain ⟨en, e, f, a, b, rfl, e2⟩ := key
  rw [List.length_map, List.drop_length] at e2
  have e2 : f = psn cs := by simpa [psn] using e2
  subst e2
  exact ⟨a, b, e⟩
theorem position_ok {xs : List Int} {n : Nat} (p : xs.Perm (up1 n)) (hn : n ≤ 12) : F_order_position [il xs] = .ok (.int (psn (cd xs))) [none, none, none, none] := by
  have hl : xs.length = n := by rw [p.length_eq, up1_len]
  have h1 := check_ok p hn
  have h2 := cd_by xs (by omega)
  obtain ⟨m, em, hm⟩ := len_il xs
  obtain ⟨a, b, e⟩ := pos_loop (il xs) n m (by omega) hn dRgL dLen F_whole_product rg_k prod_ok em (cd xs) (cd_cod xs) (by rw [cd_len, hl])
  unfold F_order_position runF m_order_position
  generalize mSet 1 (mB dAddX (mVarS 1) _) = body at e ⊢
  simp [h1, h2, e]
theorem law_position_ok {xs : List Int} {n : Nat} (p : xs.Perm (up1 n)) (hn : n ≤ 12) : F__law_position [il xs] = .ok (.int (psn (cd xs))) [none, none, none, none] := by
  have hl : xs.length = n := by rw [p.length_eq, up1_len]
  have h2 := cd_by xs (by omega)
  rw [← law_cd_eq] at h2
  obtain ⟨m, em, hm⟩ := len_il xs
  obtain ⟨a, b, e⟩ := pos_loop2 (il xs) n m (by omega) hn dLen F__law_factorial fact_ok em (cd xs) (cd_cod xs) (by rw [cd_len, hl])
  unfold F__law_position runF m__law_position
  generalize mSet 1 (mB dAddX (mVarS 1) _) = body at e ⊢
  simp [h2, e]
end Im
/-! The order at a position. -/
namespace Im
open PySem PySem.Spec PyProof.Rows L2
theorem at_loop (n : Nat) (v : D) (hn : n ≤ 12) (rg : D → D → Option D) (wp : List D → FRes) (hr : ∀ k : Nat, k ≤ 100 → rg (.int 1) (.int ((k : Int) + 1)) = some (il (up1 k))) (hw : ∀ k : Nat, k ≤ 100 → wp [il (up1 k)] = .ok (.int (fct k)) [none, none, none]) (cs : List Int) (hc : Cod cs) (hcl : cs.length = n) :
    ∃ a b l, loopM (gSet 4) (mSeq (mSet 5 (mCall wp [0] (mCons (mB rg (mC (.int 1)) (mB dSub (mVar 0) (mVarS 4))) mNil)))
      (mSeq (mDrop (mAppend 3 (mB dDiv (mVar 2) (mVar 5)))) (mSet 2 (mB dSub (mVar 2) (mB dMulX (mB dDiv (mVar 2) (mVar 5)) (mVar 5)))))) (rngD 0 n) [some (.int (n : Nat)), some v, some (.int (psn cs)), some (.lst []), none, none] = .nx [some (.int (n : Nat)), some v, l, some (il cs), a, b] := by
  have key := loop_rng (g := gSet 4) (mb := mSeq (mSet 5 (mCall wp [0] (mCons (mB rg (mC (.int 1)) (mB dSub (mVar 0) (mVarS 4))) mNil)))
      (mSeq (mDrop (mAppend 3 (mB dDiv (mVar 2) (mVar 5)))) (mSet 2 (mB dSub (mVar 2) (mB dMulX (mB dDiv (mVar 2) (mVar 5)) (mVar 5))))))
    (fun i en => ∃ (a b : Option D), en = [some (.int (n : Nat)), some v, some (.int (psn (cs.drop i))), some (il (cs.take i)), a, b]) n [some (.int (n : Nat)), some v, some (.int (psn cs)), some (.lst []), none, none] (by
    rintro i en hi ⟨a, b, rfl⟩
    have hi' : i < cs.length := by omega
    have hdr : cs.drop i = cs[i] :: cs.drop (i + 1) := List.drop_eq_getElem_cons hi'
    have hk : (n : Int) - (i : Int) = ((n - i - 1 : Nat) : Int) + 1 := by omega
    have hk2 : (cs.drop (i + 1)).length = n - i - 1 := by rw [List.length_drop]; omega
    have r1 := hr (n - i - 1) (by omega)
    have w1 := hw (n - i - 1) (by omega)
    have hcd : ∀ (l : List Int) (j : Nat), Cod l → Cod (l.drop j) := fun l => by
      induction l with
      | nil => intro j _; simp; trivial
      | cons c l ih =>
        intro j h
        cases j with
        | zero => exact h
        | succ j => exact ih j h.2.2
    have hcd' := hcd cs i hc
    rw [hdr] at hcd'
    have dv := psn_div hcd'
    rw [hk2] at dv
    have u0 := fct_pos (n - i - 1)
    have u1 := fct_12 (n - i - 1) (by omega)
    have c0 := cod_pos hc cs[i] (List.getElem_mem hi')
    have c1 := cod_at hc (List.getElem?_eq_getElem hi')
    have h1 : -18446744073709551616 < cs[i] := by omega
    have h2 : cs[i] < 18446744073709551616 := by omega
    have ps : psn (cs[i] :: cs.drop (i + 1)) = cs[i] * fct (n - i - 1) + psn (cs.drop (i + 1)) := by
      simp only [psn, hk2]
    have tk : cs.take (i + 1) = cs.take i ++ [cs[i]] := by rw [List.take_succ, List.getElem?_eq_getElem hi']; rfl
    have hl1 : i < 1000000 := by omega
    rw [hdr]
    generalize hL : psn (cs[i] :: cs.drop (i + 1)) = L at dv ps
    generalize hC : cs[i] = c at *
    generalize psn (cs.drop (i + 1)) = R at *
    generalize n - i - 1 = k at hk r1 w1 u0 u1 dv ps
    generalize fct k = u at *
    have n0 : u ≠ 0 := by omega
    have n1 : u.natAbs < 1073741824 := by omega
    have e0 : L - c * u = R := by omega
    have lt : (cs.take i).length < 1000000 := by
      rw [List.length_take]; omega
    simp only [List.length_take] at lt
    simp [hk, r1, w1, n0, n1, dv, h1, h2, e0, lt, tk, -List.map_take]) ⟨none, none, by simp⟩
  obtain ⟨en, e, a, b, rfl⟩ := key
  rw [List.take_of_length_le (by omega)] at e
  exact ⟨a, b, _, e⟩
theorem at_st (n : Nat) (v : Int) (cs : List Int) (a b l : Option D) (ch wh wp ow : List D → FRes) (rg : D → D → Option D) (F : SM) (u : Int) (r : D) (ios : En) (h0 : (n : Int) ≤ 1000000) (h0' : (-1000000 : Int) ≤ n)
    (h1 : ch [.int (n : Nat)] = .ok .non [none]) (h2 : wh [.int v] = .ok (.bl true) [none]) (h3 : rg (.int 1) (.int ((n : Int) + 1)) = some (il (up1 n))) (h4 : wp [il (up1 n)] = .ok (.int u) [none, none, none]) (v0 : 0 ≤ v) (v1 : v < u)
    (h5 : loopM (gSet 4) F (rngD 0 n) [some (.int (n : Nat)), some (.int v), some (.int v), some (.lst []), none, none] = .nx [some (.int (n : Nat)), some (.int v), l, some (il cs), a, b]) (h6 : ow [il cs] = .ok r ios) :
    ∃ en, mSeq (mDrop (mCall ch [0] (mCons (mVar 0) mNil)))
      (mSeq (mIfS (mOr (mNot (mCall wh [0] (mCons (mVar 1) mNil))) (mNot (mChain dLe dLt (mC (.int 0)) (mVar 1) (mCall wp [0] (mCons (mB rg (mC (.int 1)) (mB dAddX (mVar 0) (mC (.int 1)))) mNil))))) (mRaise "InvalidNumber" (mVar 1)) mPass)
      (mSeq (mPar 2 3 (mCons (mVar 1) (mCons (mLst mNil) mNil)))
      (mSeq (mFor (mRng1 (mVar 0)) (gSet 4) F)
      (mRet [none, none] (mCall ow [0] (mCons (mMove 3) mNil)))))) [some (.int (n : Nat)), some (.int v), none, none, none, none] = .rt r en := by
  refine ⟨maskE [none, none] [some (.int (n : Nat)), some (.int v), l, none, a, b], ?_⟩
  simp [h1, h2, h3, h4, v0, v1, h0, h0', h5, h6]
theorem size_ok (n : Nat) (hn : n ≤ 12) : F_check_size [.int (n : Nat)] = .ok .non [none] := by
  have h1 : (n : Int) ≤ 12 := by omega
  unfold F_check_size runF m_check_size
  simp [h1]
theorem at_ok {cs : List Int} (h : Cod cs) (hl : cs.length ≤ 12) : ∃ ios, F_order_at [.int (cs.length : Nat), .int (psn cs)] = .ok (il (ow cs (up1 cs.length))) ios := by
  obtain ⟨a, b, l, e⟩ := at_loop cs.length (.int (psn cs)) hl dRgL F_whole_product rg_k prod_ok cs h rfl
  have p := psn_lt h
  obtain ⟨en, q⟩ := at_st cs.length (psn cs) cs a b l F_check_size F_is_whole F_whole_product F_order_with dRgL _ (fct cs.length) _ _ (by omega) (by omega) (size_ok _ hl) (whole_int _) (rg_k _ (by omega)) (prod_ok _ (by omega)) p.1 p.2 e (with_ok h hl)
  exact ⟨_, runF_rt q⟩
/-! ### small ones, all of them -/
theorem small_ok (e0 e1 e2 e3 e4 e6 : Option D) (s : Nat) (hs : s < 5) : mB (eqD true) (mLc (mRng1 (mCall F__law_factorial [0] (mCons (mVarS 5) mNil))) (gSet 7) (mC (.bl true)) (mCall F_order_at [0, 1] (mCons (mVarS 5) (mCons (mVarS 7) mNil))) [7]) (mCall F__law_all [0] (mCons (mVarS 5) mNil)) [e0, e1, e2, e3, e4, some (.int (s : Nat)), e6, none] = .ok (.bl false) [e0, e1, e2, e3, e4, some (.int (s : Nat)), e6, none] := by
  match s, hs with
  | 0, _ => kernel_rfl
  | 1, _ => kernel_rfl
  | 2, _ => kernel_rfl
  | 3, _ => kernel_rfl
  | 4, _ => kernel_rfl
end Im
/-! What is refused; what is told is new. -/
namespace Im
open PySem PySem.Spec PyProof.Rows L2
theorem nz_il {xs : List Int} (h : ∀ x ∈ xs, x.natAbs < 1000000) : Nz 1 (xs.length * 41) (il xs) := by
  have := nzl_all (n := 0) (w := 40) (ds := xs.map D.int) (fun d hd => by
    obtain ⟨x, hx, rfl⟩ := List.mem_map.mp hd
    have := h x hx
    exact nz_int x (by omega))
  rw [List.length_map] at this
  exact nz_lst this
theorem last_nomk {n w : Nat} {ds : List D} (hs : ∀ d ∈ ds, (∃ i, d = .int i) ∨ (∃ xs, d = .tup xs ∧ Nz n w d) ∨ (∃ xs, d = .lst xs ∧ Nz n w d)) (hn : n ≤ 60) : noMk ds := by
  intro d hd
  have hm : d ∈ ds := List.mem_of_getLast? hd
  have ss : SeqAt.shaped (.str "marked") = true := by decide +kernel
  rcases hs d hm with ⟨i, rfl⟩ | ⟨xs, rfl, p, e, hp⟩ | ⟨xs, rfl, p, e, hp⟩
  · have si : SeqAt.shaped (.int i) = true := by simp [SeqAt.shaped, PyData.canLay0, PyData.depth]
    simp [eqD, toP, si, ss, PyData.eqv]
  · have sh := shaped_of hp hn
    rw [toP, Option.map_eq_some_iff] at e
    obtain ⟨ps, e3, rfl⟩ := e
    simp [eqD, toP, e3, sh, ss, PyData.eqv]
  · have sh := shaped_of hp hn
    rw [toP, Option.map_eq_some_iff] at e
    obtain ⟨ps, e3, rfl⟩ := e
    simp [eqD, toP, e3, sh, ss, PyData.eqv]
theorem mk1_il (n : Nat) (xs : List Int) (hl : xs.length ≤ 1000) (h : ∀ x ∈ xs, x.natAbs < 1000000) : ∃ a b, F_mk1 (n + 2) [il xs] = .ok (.bl true) [some (.lst (xs.map D.int ++ [.str "marked"])), a, b] := by
  have := mk1_lst (n + 1) (xs.map D.int) id (nz_il h) (by omega) (by simp; omega) (last_nomk (n := 0) (w := 0) (fun d hd => by
    obtain ⟨i, _, rfl⟩ := List.mem_map.mp hd
    exact .inl ⟨i, rfl⟩) (by omega)) (fun d hd => by
    obtain ⟨i, _, rfl⟩ := List.mem_map.mp hd
    exact ⟨none, none, mk0_leaf n _ rfl rfl⟩)
  simpa using this
theorem marked_ok {xs : List Int} (h3 : ∀ x ∈ xs, x.natAbs < 1000000) (l3 : xs.length ≤ 12) :
    Nz 3 60000 (.lst [il xs, il xs]) ∧ ∃ t a b, F__law_marked [.lst [il xs, il xs]] = .ok (.bl true) [some t, a, b] := by
  have n3 := (nz_il h3).mono (n' := 2) (w' := 1000) (by omega) (by omega)
  have nz : Nz 3 60000 (.lst [il xs, il xs]) := (nz_lst (nzl_cons n3 (nzl_cons n3 nzl_nil))).mono (by omega) (by omega)
  refine ⟨nz, ?_⟩
  have key := mk2_lst 5 [il xs, il xs] (fun d => match d with | .lst ys => .lst (ys ++ [.str "marked"]) | d => d) nz (by omega) (by simp) (last_nomk (n := 2) (w := 20000) (fun d hd => by
      simp only [List.mem_cons, List.not_mem_nil, or_false] at hd
      rcases hd with rfl | rfl
      · exact .inr (.inr ⟨_, rfl, n3.mono (by omega) (by omega)⟩)
      · exact .inr (.inr ⟨_, rfl, n3.mono (by omega) (by omega)⟩)) (by omega)) (fun d hd => by
      simp only [List.mem_cons, List.not_mem_nil, or_false] at hd
      rcases hd with rfl | rfl
      · exact mk1_il 3 xs (by omega) h3
      · exact mk1_il 3 xs (by omega) h3)
  obtain ⟨a, b, e⟩ := key
  exact ⟨_, a, b, e⟩
/-- refused as an order, at 4 -/
structure Bad4 (d : D) : Prop where
  nt : noTag d = true
  ca : F__law_all_caught [.lst [.clo 2 [d]], .int 4, d] = .ok (.bl true) [none, none, none, none, none]
theorem cf2 {v : D} {c : Str} (h : F_order_position [v] = .exc c v) : CF 2 [v] = .exc c v := by
  show resC (m_lam2 [some v]) = _
  unfold m_lam2
  simp [h, resC]
theorem bad4 {d : D} (nt : noTag d = true) (h0 : F_order_position [d] = .exc "InvalidOrder" d) (hx : F__law_exact [.lst [kin9 4, d], .lst [kin9 4, d]] = .ok (.bl true) [none, none]) : Bad4 d :=
  ⟨nt, all_caught (a := 4) kO hx [(2, [d])] (by simp) (fun p hp => by
    simp only [List.mem_cons, List.not_mem_nil, or_false] at hp
    subst hp
    exact cf2 h0)⟩
def badL : List D := [D.non, .tup [], .edict, .tup [.int 1, .int 2], il [0], il [21], .lst [.bl true], .lst [.str "1"], .lst [.non], il [1,1,1,1,1,1,1,1,1,1,1,1,1], .str "word", il [1, -1], .lst [il [1]], .int 1, il [2], il [1, 1], il [1, 3], il [2, 3, 4], il [1, 2, 2]]
theorem bads_eq : F__law_bad_orders [] = .ok (.lst badL) [] := by kernel_rfl
theorem bads_all : ∀ d ∈ badL, Bad4 d := by
  intro d hd
  unfold badL at hd
  simp only [List.mem_cons, List.not_mem_nil, or_false] at hd
  rcases hd with rfl | rfl | rfl | rfl | rfl | rfl | rfl | rfl | rfl | rfl | rfl | rfl | rfl | rfl | rfl | rfl | rfl | rfl | rfl
  all_goals exact bad4 (by kernel_rfl) (by kernel_rfl) (by kernel_rfl)
/-- refused as a length, at 5 -/
def sizeL : List D := [.non, .int (-1), .int 13, .bl true, .str "1", il [1], .tup [.int 1, .int 1]]
structure Bad5 (d : D) : Prop where
  nt : noTag d = true
  ca : F__law_all_caught [.lst [.clo 0 [d]], .int 5, d] = .ok (.bl true) [none, none, none, none, none]
theorem cf0 {v : D} {c : Str} (h : F_order_at [v, .non] = .exc c v) : CF 0 [v] = .exc c v := by
  show resC (m_lam0 [some v]) = _
  unfold m_lam0
  simp [h, resC]
theorem bad5 {d : D} (nt : noTag d = true) (h0 : F_order_at [d, .non] = .exc "InvalidNumber" d) (hx : F__law_exact [.lst [kin9 5, d], .lst [kin9 5, d]] = .ok (.bl true) [none, none]) : Bad5 d :=
  ⟨nt, all_caught (a := 5) kN hx [(0, [d])] (by simp) (fun p hp => by
    simp only [List.mem_cons, List.not_mem_nil, or_false] at hp
    subst hp
    exact cf0 h0)⟩
theorem size_all : ∀ d ∈ sizeL, Bad5 d := by
  intro d hd
  unfold sizeL at hd
  simp only [List.mem_cons, List.not_mem_nil, or_false] at hd
  rcases hd with rfl | rfl | rfl | rfl | rfl | rfl | rfl
  all_goals exact bad5 (by kernel_rfl) (by kernel_rfl) (by kernel_rfl)
/-- refused as a position, at 5 -/
def posL (u : Int) : List D := [.non, .int (-1), .int u, .bl true, .str "0", il [0]]
structure BadP (o d : D) : Prop where
  nt : noTag d = true
  ca : F__law_all_caught [.lst [.clo 1 [d, o]], .int 5, d] = .ok (.bl true) [none, none, none, none, none]
theorem cf1 {xs : List Int} {v : D} {c : Str} {n : Nat} (hl : xs.length = n) (h : F_order_at [.int (n : Nat), v] = .exc c v) : CF 1 [v, il xs] = .exc c v := by
  show resC (m_lam1 [some v, some (il xs)]) = _
  unfold m_lam1
  simp [hl, h, resC]
theorem badP {xs : List Int} {d : D} {n : Nat} (hl : xs.length = n) (nt : noTag d = true) (h0 : F_order_at [.int (n : Nat), d] = .exc "InvalidNumber" d) (hx : F__law_exact [.lst [kin9 5, d], .lst [kin9 5, d]] = .ok (.bl true) [none, none]) : BadP (il xs) d :=
  ⟨nt, all_caught (a := 5) kN hx [(1, [d, il xs])] (by simp) (fun p hp => by
    simp only [List.mem_cons, List.not_mem_nil, or_false] at hp
    subst hp
    exact cf1 hl h0)⟩
theorem no_whole (n : Nat) (hn : n ≤ 12) (d : D) (h : F_is_whole [d] = .ok (.bl false) [none]) : F_order_at [.int (n : Nat), d] = .exc "InvalidNumber" d := by
  have h1 := size_ok n hn
  refine runF_exc (en0 := [some (.int (n : Nat)), some d, none, none, none, none]) ?_
  unfold m_order_at
  simp [h1, h]
theorem no_pos (n : Nat) (hn : n ≤ 12) (v : Int) (h : ¬ (0 ≤ v ∧ v < fct n)) : F_order_at [.int (n : Nat), .int v] = .exc "InvalidNumber" (.int v) := by
  have st : ∀ (ch wh wp : List D → FRes) (rg : D → D → Option D) (R : SM), ch [.int (n : Nat)] = .ok .non [none] → wh [.int v] = .ok (.bl true) [none] → rg (.int 1) (.int ((n : Int) + 1)) = some (il (up1 n)) → wp [il (up1 n)] = .ok (.int (fct n)) [none, none, none] →
      mSeq (mDrop (mCall ch [0] (mCons (mVar 0) mNil)))
      (mSeq (mIfS (mOr (mNot (mCall wh [0] (mCons (mVar 1) mNil))) (mNot (mChain dLe dLt (mC (.int 0)) (mVar 1) (mCall wp [0] (mCons (mB rg (mC (.int 1)) (mB dAddX (mVar 0) (mC (.int 1)))) mNil))))) (mRaise "InvalidNumber" (mVar 1)) mPass) R) [some (.int (n : Nat)), some (.int v), none, none, none, none] = .exc "InvalidNumber" (.int v) := by
    intro ch wh wp rg R h1 h2 h3 h4
    by_cases a : 0 ≤ v
    · have b : ¬ v < fct n := fun b => h ⟨a, b⟩
      simp [h1, h2, h3, h4, a, b]
    · simp [h1, h2, h3, h4, a]
  exact runF_exc (st F_check_size F_is_whole F_whole_product dRgL _ (size_ok n hn) (whole_int v) (rg_k n (by omega)) (prod_ok n (by omega)))
theorem pos_all {xs : List Int} {n : Nat} (hl : xs.length = n) (hn : n ≤ 12) : ∀ d ∈ posL (fct n), BadP (il xs) d := by
  intro d hd
  have u0 := fct_pos n
  have u1 := fct_12 n (by omega)
  unfold posL at hd
  simp only [List.mem_cons, List.not_mem_nil, or_false] at hd
  rcases hd with rfl | rfl | rfl | rfl | rfl | rfl
  · exact badP hl rfl (no_whole n hn _ rfl) (exact_v 5 nz_non)
  · exact badP hl rfl (no_pos n hn _ (by omega)) (exact_v 5 (nz_int _))
  · exact badP hl rfl (no_pos n hn _ (by omega)) (exact_v 5 (nz_int _ (by omega)))
  · exact badP hl rfl (no_whole n hn _ rfl) (exact_v 5 (nz_bl _))
  · exact badP hl rfl (no_whole n hn _ rfl) (exact_v 5 (nz_str _ (by decide +kernel)))
  · exact badP hl (by kernel_rfl) (no_whole n hn _ rfl) (by kernel_rfl)
end Im
/-! The law. -/
namespace Im
open PySem PySem.Spec PyProof.Rows L2
theorem seq_nx {m1 m2 : SM} {en en' : En} (h : m1 en = .nx en') : mSeq m1 m2 en = m2 en' := by rw [x_mSeq, h]
theorem size_step (g : D) (e1 e2 e3 e5 : D) (e4 : Option D) : ∀ (ds : List D) (x6 : Option D), (∀ d ∈ ds, Bad5 d) → ∃ y6, loopM (gSet 6) (mIfS (mNot (mCallC F__law_all_caught [(0, [6])] (mCons (mC (.int 5)) (mCons (mVar 6) mNil)))) (mRet [some 1] (mC (.bl false))) mPass) ds [some g, some e1, some e2, some e3, e4, some e5, x6, none] = .nx [some g, some e1, some e2, some e3, e4, some e5, y6, none]
  | [], x6, _ => ⟨x6, by simp⟩
  | d :: ds, x6, h => by
    obtain ⟨y6, ih⟩ := size_step g e1 e2 e3 e5 e4 ds (some d) (fun d hd => h d (List.mem_cons_of_mem _ hd))
    refine ⟨y6, ?_⟩
    have b := h d List.mem_cons_self
    have b1 := b.nt
    have b2 := b.ca
    rw [loop_cons]
    have st : lStep (gSet 6) (mIfS (mNot (mCallC F__law_all_caught [(0, [6])] (mCons (mC (.int 5)) (mCons (mVar 6) mNil)))) (mRet [some 1] (mC (.bl false))) mPass) d [some g, some e1, some e2, some e3, e4, some e5, x6, none] = .nx [some g, some e1, some e2, some e3, e4, some e5, some d, none] := by
      simp [b1, b2]
    rw [st]
    exact ih
theorem pos_step (g : D) (e1 e2 e3 e5 : D) (e4 : Option D) (nt : noTag e1 = true) : ∀ (ds : List D) (x6 : Option D), (∀ d ∈ ds, BadP e1 d) → ∃ y6, loopM (gSet 6) (mIfS (mNot (mCallC F__law_all_caught [(1, [6, 1])] (mCons (mC (.int 5)) (mCons (mVar 6) mNil)))) (mRet [some 1] (mC (.bl false))) mPass) ds [some g, some e1, some e2, some e3, e4, some e5, x6, none] = .nx [some g, some e1, some e2, some e3, e4, some e5, y6, none]
  | [], x6, _ => ⟨x6, by simp⟩
  | d :: ds, x6, h => by
    obtain ⟨y6, ih⟩ := pos_step g e1 e2 e3 e5 e4 nt ds (some d) (fun d hd => h d (List.mem_cons_of_mem _ hd))
    refine ⟨y6, ?_⟩
    have b := h d List.mem_cons_self
    have b1 := b.nt
    have b2 := b.ca
    rw [loop_cons]
    have st : lStep (gSet 6) (mIfS (mNot (mCallC F__law_all_caught [(1, [6, 1])] (mCons (mC (.int 5)) (mCons (mVar 6) mNil)))) (mRet [some 1] (mC (.bl false))) mPass) d [some g, some e1, some e2, some e3, e4, some e5, x6, none] = .nx [some g, some e1, some e2, some e3, e4, some e5, some d, none] := by
      simp [b1, b2, nt]
    rw [st]
    exact ih
theorem pos_st (x0 : D) (m u : Int) (fa : List D → FRes) (ln : D → Option D) (F : SM) (g e2 e3 e4 e5 e6 : Option D) (en' : En) (hm : ln x0 = some (.int m)) (hf : fa [.int m] = .ok (.int u) [none]) (h : loopM (gSet 6) F (posL u) [g, some x0, e2, e3, e4, e5, e6, none] = .nx en') :
    mFor (mIt dItems (mLst (mCons (mC .non) (mCons (mB dSub (mC (.int 0)) (mC (.int 1))) (mCons (mCall fa [0] (mCons (m1 ln (mVar 1)) mNil)) (mCons (mC (.bl true)) (mCons (mC (.str "0")) (mCons (mLst (mCons (mC (.int 0)) mNil)) mNil)))))))) (gSet 6) F [g, some x0, e2, e3, e4, e5, e6, none] = .nx en' := by
  unfold posL at h
  simp [hm, hf]
  exact h
theorem right_ok {g : D} (h : Gn g) : ∃ g', F__law_right [g] = .ok (.bl true) [some g', none, none, none, none, none, none, none] ∧ Gn g' := by
  obtain ⟨xs, n, g1, e1, p, hn, hg1⟩ := drawn_ok h 12 (by decide) (by decide)
  have hn : n ≤ 12 := by omega
  have hl : xs.length = n := by rw [p.length_eq, up1_len]
  have sx : ∀ x ∈ xs, x.natAbs < 1000000 := fun x hx => by
    have := up1_mem.mp (p.mem_iff.mp hx)
    omega
  obtain ⟨s, er, hs, _⟩ := repr_nz (nz_il sx) (by omega) (by omega)
  have ep := position_ok p hn
  have el := law_position_ok p hn
  have pb := psn_lt (cd_cod xs)
  rw [cd_len, hl] at pb
  have f12 := fct_12 n (by omega)
  obtain ⟨ios, ea⟩ := at_ok (cd_cod xs) (by rw [cd_len]; omega)
  rw [cd_len, hl, ow_cd (up1_lt n) p.symm] at ea
  generalize psn (cd xs) = v at ep el pb ea
  have nv : Nz 0 40 (.int v) := nz_int v (by omega)
  have ex1 := exact_nz ((nz_lst (nzl_cons nv (nzl_cons nv nzl_nil))).mono (n' := 3) (w' := 60000) (by omega) (by omega)) (by decide) (by decide)
  obtain ⟨nz, t, ta, tb, em⟩ := marked_ok sx (by omega)
  have ex := exact_nz nz (by decide) (by decide)
  obtain ⟨r, g2, e6, r0, r1, hg2⟩ := rnd_ok (n := 5) hg1 (by decide) (by decide)
  obtain ⟨m, rfl⟩ : ∃ m : Nat, r = (m : Int) := ⟨r.toNat, by omega⟩
  obtain ⟨y6, e8⟩ := size_step g2 (il xs) (.str s) (.int v) (.int (m : Nat)) (some t) sizeL none size_all
  obtain ⟨y7, e9⟩ := pos_step g2 (il xs) (.str s) (.int v) (.int (m : Nat)) (some t) (by rw [nt_lst, nt_ints]) (posL (fct n)) y6 (pos_all hl hn)
  refine ⟨g2, runF_rt (en' := [some g2, none, none, none, none, none, none, none]) ?_, hg2⟩
  show m__law_right [some g, none, none, none, none, none, none, none] = _
  unfold m__law_right
  refine (seq_nx (en' := [some g1, some (il xs), none, none, none, none, none, none]) ?_).trans ?_
  · simp [e1]
  refine (seq_nx (en' := [some g1, some (il xs), some (.str s), some (.int v), none, none, none, none]) ?_).trans ?_
  · simp [er, el]
  refine (seq_nx (en' := [some g1, some (il xs), some (.str s), some (.int v), none, none, none, none]) ?_).trans ?_
  · generalize F__law_exact = fe at ex1 ⊢
    simp [ep, ex1]
  refine (seq_nx (en' := [some g1, some (il xs), some (.str s), some (.int v), some (.lst [il xs, il xs]), none, none, none]) ?_).trans ?_
  · simp [hl, ea]
  refine (seq_nx (en' := [some g1, some (il xs), some (.str s), some (.int v), some t, none, none, none]) ?_).trans ?_
  · have z2 := eqS s hs
    generalize F__law_exact = fe at ex ⊢
    generalize F__law_marked = fm at em ⊢
    simp [ex, em, z2, er]
  refine (seq_nx (en' := [some g2, some (il xs), some (.str s), some (.int v), some t, some (.int (m : Nat)), none, none]) ?_).trans ?_
  · simp [e6]
  refine (seq_nx (en' := [some g2, some (il xs), some (.str s), some (.int v), some t, some (.int (m : Nat)), none, none]) ?_).trans ?_
  · have k := small_ok (some g2) (some (il xs)) (some (.str s)) (some (.int v)) (some t) none m (by omega)
    rw [x_mIfS, k]
    rfl
  refine (seq_nx (en' := [some g2, some (il xs), some (.str s), some (.int v), some t, some (.int (m : Nat)), y6, none]) ?_).trans ?_
  · generalize mIfS (mNot (mCallC F__law_all_caught [(0, [6])] (mCons (mC (.int 5)) (mCons (mVar 6) mNil)))) (mRet [some 1] (mC (.bl false))) mPass = body at e8 ⊢
    simp
    exact e8
  refine (seq_nx (en' := [some g2, some (il xs), some (.str s), some (.int v), some t, some (.int (m : Nat)), y7, none]) ?_).trans ?_
  · obtain ⟨m1, em1, hm1⟩ := len_il xs
    have f := fact_ok n (by omega)
    rw [show (n : Int) = m1 by omega] at f
    exact pos_st (il xs) m1 (fct n) F__law_factorial dLen _ _ _ _ _ _ _ _ em1 f e9
  have c := comp_flt (g := gSet 6) (mt := mNot (mCallC F__law_all_caught [(2, [6])] (mCons (mC (.int 4)) (mCons (mVar 6) mNil)))) (me := mVar 6) (vs := [6]) (en := [some g2, some (il xs), some (.str s), some (.int v), some t, some (.int (m : Nat)), none, none]) (fun d : D => d) (fun _ => false) (fun d => d) badL (by simp [badL]) (fun d hd => by
    have b1 := (bads_all d hd).nt
    have b2 := (bads_all d hd).ca
    simp [b1, b2])
  rw [List.map_id', show (badL.filter fun _ => false).map (fun d : D => d) = [] by simp] at c
  have e0 : eqD false (.lst []) (.lst []) = some (.bl true) := by kernel_rfl
  generalize mNot (mCallC F__law_all_caught [(2, [6])] (mCons (mC (.int 4)) (mCons (mVar 6) mNil))) = mt at c ⊢
  simp [bads_eq, c, e0]
theorem law_true (ns : List Int) (h : ns.length ≤ 63) : ∃ ios, F_law [.scr ns] = .ok (.bl true) ios := by
  have key := loop_rng (g := gSet 1) (mb := mSeq (mSet 2 (mCall F__law_generator [0, 1] (mCons (mVar 0) (mCons (mVarS 1) mNil))))
      (mIfS (mOr (mNot (mCallR F__law_right [0] 2 0 (mCons (mMove 2) mNil))) (mNot (mCallR F__law_right [0] 2 0 (mCons (mMove 2) mNil)))) (mRet [] (mC (.bl false))) mPass))
    (fun i en => ∃ a b, en = [some (.scr ns), a, b]) 3 [some (.scr ns), none, none] (by
    rintro i en hi ⟨a, b, rfl⟩
    obtain ⟨g, ios, e, hg⟩ := gen_ok ns i
    obtain ⟨g1, e1, hg1⟩ := right_ok hg
    obtain ⟨g2, e2, hg2⟩ := right_ok hg1
    generalize F__law_right = fr at e1 e2 ⊢
    simp [e, e1, e2]) ⟨none, none, rfl⟩
  obtain ⟨en, e, a, b, rfl⟩ := key
  refine ⟨[none, none, none], ?_⟩
  unfold F_law runF m_law
  generalize mSeq (mSet 2 (mCall F__law_generator [0, 1] (mCons (mVar 0) (mCons (mVarS 1) mNil)))) _ = body at e ⊢
  simp [e]
end Im
open PySem PySem.W PyProof.Rows in
set_option maxRecDepth 100000 in
set_option maxHeartbeats 0 in
theorem PySem.Challenge.cw_pairedboards_k80_whole_positions_of_orde_holds : PySem.Challenge.rw_pairedboards_k80_whole_positions_of_orde.Holds := by
  w_on; o_law; k_head; (case hw => w_witness2)
  k_fill
  refine Im.head_walkT (l := PySem.Challenge.rw_pairedboards_k80_whole_positions_of_orde) (n := 63) (k := 13) (x := "script") (F := fun _ => Im.F_law) rfl (by decide) rfl ⟨rfl, by decide, by decide⟩ (fun w h Y => ⟨PySem.W.km_in_of Y, PySem.W.km_tabs_of Y⟩) ?F ?L
  case L => exact fun _ ns h => Im.law_true ns h
  case F =>
    intro w mg fa h hts KX G hmg
    refine' Im.head_mk KX G hmg ?a0 ?l0 ?c0 ?k0 ?a1 ?l1 ?c1 ?k1 ?a2 ?l2 ?c2 ?k2 ?a3 ?l3 ?c3 ?k3 ?a4 ?l4 ?c4 ?k4 ?a5 ?l5 ?c5 ?k5 ?a6 ?l6 ?c6 ?k6 ?a7 ?l7 ?c7 ?k7 ?a8 ?l8 ?c8 ?k8 ?a9 ?l9 ?c9 ?k9 ?a10 ?l10 ?c10 ?k10 ?a11 ?l11 ?c11 ?k11 ?a12 ?l12 ?c12 ?k12 ?a13 ?l13 ?c13 ?k13 ?a14 ?l14 ?c14 ?k14 ?a15 ?l15 ?c15 ?k15 ?a16 ?l16 ?c16 ?k16 ?a17 ?l17 ?c17 ?k17 ?a18 ?l18 ?c18 ?k18 ?a19 ?l19 ?c19 ?k19 ?a20 ?l20 ?c20 ?k20 ?a21 ?l21 ?c21 ?k21 ?a22 ?l22 ?c22 ?k22 ?a23 ?l23 ?c23 ?k23 ?a24 ?l24 ?c24 ?k24 ?a25 ?l25 ?c25 ?k25 ?a26 ?l26 ?c26 ?k26 ?a27 ?l27 ?c27 ?k27 ?a28 ?l28 ?c28 ?k28 ?a29 ?l29 ?c29 ?k29 ?a30 ?l30 ?c30 ?k30 ?y129 ?y229 ?y329 ?y429 ?y529 ?z_all ?z_any ?z_bool ?z_enumerate ?z_int ?z_isinstance ?z_len ?z_list ?z_max ?z_range ?z_repr ?z_sorted ?z_sum ?z_tuple ?m_MOST_LENGTH ?m_MOST_LETTER ?hD ?xI ?x1 ?x2 ?x3 ?x4 ?x5 ?x6 ?x7 ?x8 ?x9 ?x10 ?x11 ?x12 ?x13 ?x14 ?x15 ?x16 ?x18 ?x17 ?g_InvalidBoard ?g1_InvalidBoard ?g2_InvalidBoard ?g30_InvalidBoard ?g31_InvalidBoard ?g32_InvalidBoard ?g33_InvalidBoard ?g34_InvalidBoard ?g35_InvalidBoard ?g4_InvalidBoard ?g5_InvalidBoard ?g6_InvalidBoard ?g7_InvalidBoard ?g8_InvalidBoard ?g9_InvalidBoard ?ga_InvalidBoard ?gb_InvalidBoard ?gc_InvalidBoard ?ge_InvalidBoard ?gd_InvalidBoard ?g_InvalidBox ?g1_InvalidBox ?g2_InvalidBox ?g30_InvalidBox ?g31_InvalidBox ?g32_InvalidBox ?g33_InvalidBox ?g34_InvalidBox ?g35_InvalidBox ?g4_InvalidBox ?g5_InvalidBox ?g6_InvalidBox ?g7_InvalidBox ?g8_InvalidBox ?g9_InvalidBox ?ga_InvalidBox ?gb_InvalidBox ?gc_InvalidBox ?ge_InvalidBox ?gd_InvalidBox ?g_InvalidList ?g1_InvalidList ?g2_InvalidList ?g30_InvalidList ?g31_InvalidList ?g32_InvalidList ?g33_InvalidList ?g34_InvalidList ?g35_InvalidList ?g4_InvalidList ?g5_InvalidList ?g6_InvalidList ?g7_InvalidList ?g8_InvalidList ?g9_InvalidList ?ga_InvalidList ?gb_InvalidList ?gc_InvalidList ?ge_InvalidList ?gd_InvalidList ?g_InvalidNumber ?g1_InvalidNumber ?g2_InvalidNumber ?g30_InvalidNumber ?g31_InvalidNumber ?g32_InvalidNumber ?g33_InvalidNumber ?g34_InvalidNumber ?g35_InvalidNumber ?g4_InvalidNumber ?g5_InvalidNumber ?g6_InvalidNumber ?g7_InvalidNumber ?g8_InvalidNumber ?g9_InvalidNumber ?ga_InvalidNumber ?gb_InvalidNumber ?gc_InvalidNumber ?ge_InvalidNumber ?gd_InvalidNumber ?g_InvalidOrder ?g1_InvalidOrder ?g2_InvalidOrder ?g30_InvalidOrder ?g31_InvalidOrder ?g32_InvalidOrder ?g33_InvalidOrder ?g34_InvalidOrder ?g35_InvalidOrder ?g4_InvalidOrder ?g5_InvalidOrder ?g6_InvalidOrder ?g7_InvalidOrder ?g8_InvalidOrder ?g9_InvalidOrder ?ga_InvalidOrder ?gb_InvalidOrder ?gc_InvalidOrder ?ge_InvalidOrder ?gd_InvalidOrder ?g_InvalidShape ?g1_InvalidShape ?g2_InvalidShape ?g30_InvalidShape ?g31_InvalidShape ?g32_InvalidShape ?g33_InvalidShape ?g34_InvalidShape ?g35_InvalidShape ?g4_InvalidShape ?g5_InvalidShape ?g6_InvalidShape ?g7_InvalidShape ?g8_InvalidShape ?g9_InvalidShape ?ga_InvalidShape ?gb_InvalidShape ?gc_InvalidShape ?ge_InvalidShape ?gd_InvalidShape ?g_InvalidWord ?g1_InvalidWord ?g2_InvalidWord ?g30_InvalidWord ?g31_InvalidWord ?g32_InvalidWord ?g33_InvalidWord ?g34_InvalidWord ?g35_InvalidWord ?g4_InvalidWord ?g5_InvalidWord ?g6_InvalidWord ?g7_InvalidWord ?g8_InvalidWord ?g9_InvalidWord ?ga_InvalidWord ?gb_InvalidWord ?gc_InvalidWord ?ge_InvalidWord ?gd_InvalidWord ?g_TooMany ?g1_TooMany ?g2_TooMany ?g30_TooMany ?g31_TooMany ?g32_TooMany ?g33_TooMany ?g34_TooMany ?g35_TooMany ?g4_TooMany ?g5_TooMany ?g6_TooMany ?g7_TooMany ?g8_TooMany ?g9_TooMany ?ga_TooMany ?gb_TooMany ?gc_TooMany ?ge_TooMany ?gd_TooMany ?g_Unlike ?g1_Unlike ?g2_Unlike ?g30_Unlike ?g31_Unlike ?g32_Unlike ?g33_Unlike ?g34_Unlike ?g35_Unlike ?g4_Unlike ?g5_Unlike ?g6_Unlike ?g7_Unlike ?g8_Unlike ?g9_Unlike ?ga_Unlike ?gb_Unlike ?gc_Unlike ?ge_Unlike ?gd_Unlike ?q_InvalidBoard_InvalidBoard ?q_InvalidBoard_InvalidBox ?q_InvalidBoard_InvalidList ?q_InvalidBoard_InvalidNumber ?q_InvalidBoard_InvalidOrder ?q_InvalidBoard_InvalidShape ?q_InvalidBoard_InvalidWord ?q_InvalidBoard_TooMany ?q_InvalidBoard_Unlike ?q_InvalidBox_InvalidBoard ?q_InvalidBox_InvalidBox ?q_InvalidBox_InvalidList ?q_InvalidBox_InvalidNumber ?q_InvalidBox_InvalidOrder ?q_InvalidBox_InvalidShape ?q_InvalidBox_InvalidWord ?q_InvalidBox_TooMany ?q_InvalidBox_Unlike ?q_InvalidList_InvalidBoard ?q_InvalidList_InvalidBox ?q_InvalidList_InvalidList ?q_InvalidList_InvalidNumber ?q_InvalidList_InvalidOrder ?q_InvalidList_InvalidShape ?q_InvalidList_InvalidWord ?q_InvalidList_TooMany ?q_InvalidList_Unlike ?q_InvalidNumber_InvalidBoard ?q_InvalidNumber_InvalidBox ?q_InvalidNumber_InvalidList ?q_InvalidNumber_InvalidNumber ?q_InvalidNumber_InvalidOrder ?q_InvalidNumber_InvalidShape ?q_InvalidNumber_InvalidWord ?q_InvalidNumber_TooMany ?q_InvalidNumber_Unlike ?q_InvalidOrder_InvalidBoard ?q_InvalidOrder_InvalidBox ?q_InvalidOrder_InvalidList ?q_InvalidOrder_InvalidNumber ?q_InvalidOrder_InvalidOrder ?q_InvalidOrder_InvalidShape ?q_InvalidOrder_InvalidWord ?q_InvalidOrder_TooMany ?q_InvalidOrder_Unlike ?q_InvalidShape_InvalidBoard ?q_InvalidShape_InvalidBox ?q_InvalidShape_InvalidList ?q_InvalidShape_InvalidNumber ?q_InvalidShape_InvalidOrder ?q_InvalidShape_InvalidShape ?q_InvalidShape_InvalidWord ?q_InvalidShape_TooMany ?q_InvalidShape_Unlike ?q_InvalidWord_InvalidBoard ?q_InvalidWord_InvalidBox ?q_InvalidWord_InvalidList ?q_InvalidWord_InvalidNumber ?q_InvalidWord_InvalidOrder ?q_InvalidWord_InvalidShape ?q_InvalidWord_InvalidWord ?q_InvalidWord_TooMany ?q_InvalidWord_Unlike ?q_TooMany_InvalidBoard ?q_TooMany_InvalidBox ?q_TooMany_InvalidList ?q_TooMany_InvalidNumber ?q_TooMany_InvalidOrder ?q_TooMany_InvalidShape ?q_TooMany_InvalidWord ?q_TooMany_TooMany ?q_TooMany_Unlike ?q_Unlike_InvalidBoard ?q_Unlike_InvalidBox ?q_Unlike_InvalidList ?q_Unlike_InvalidNumber ?q_Unlike_InvalidOrder ?q_Unlike_InvalidShape ?q_Unlike_InvalidWord ?q_Unlike_TooMany ?q_Unlike_Unlike
    (case a0 => k_is)
    (case l0 => k_is)
    (case c0 => k_is)
    (case k0 => k_is)
    (case a1 => k_is)
    (case l1 => k_is)
    (case c1 => k_is)
    (case k1 => k_is)
    (case a2 => k_is)
    (case l2 => k_is)
    (case c2 => k_is)
    (case k2 => k_is)
    (case a3 => k_is)
    (case l3 => k_is)
    (case c3 => k_is)
    (case k3 => k_is)
    (case a4 => k_is)
    (case l4 => k_is)
    (case c4 => k_is)
    (case k4 => k_is)
    (case a5 => k_is)
    (case l5 => k_is)
    (case c5 => k_is)
    (case k5 => k_is)
    (case a6 => k_is)
    (case l6 => k_is)
    (case c6 => k_is)
    (case k6 => k_is)
    (case a7 => k_is)
    (case l7 => k_is)
    (case c7 => k_is)
    (case k7 => k_is)
    (case a8 => k_is)
    (case l8 => k_is)
    (case c8 => k_is)
    (case k8 => k_is)
    (case a9 => k_is)
    (case l9 => k_is)
    (case c9 => k_is)
    (case k9 => k_is)
    (case a10 => k_is)
    (case l10 => k_is)
    (case c10 => k_is)
    (case k10 => k_is)
    (case a11 => k_is)
    (case l11 => k_is)
    (case c11 => k_is)
    (case k11 => k_is)
    (case a12 => k_is)
    (case l12 => k_is)
    (case c12 => k_is)
    (case k12 => k_is)
    (case a13 => k_is)
    (case l13 => k_is)
    (case c13 => k_is)
    (case k13 => k_is)
    (case a14 => k_is)
    (case l14 => k_is)
    (case c14 => k_is)
    (case k14 => k_is)
    (case a15 => k_is)
    (case l15 => k_is)
    (case c15 => k_is)
    (case k15 => k_is)
    (case a16 => k_is)
    (case l16 => k_is)
    (case c16 => k_is)
    (case k16 => k_is)
    (case a17 => k_is)
    (case l17 => k_is)
    (case c17 => k_is)
    (case k17 => k_is)
    (case a18 => k_is)
    (case l18 => k_is)
    (case c18 => k_is)
    (case k18 => k_is)
    (case a19 => k_is)
    (case l19 => k_is)
    (case c19 => k_is)
    (case k19 => k_is)
    (case a20 => k_is)
    (case l20 => k_is)
    (case c20 => k_is)
    (case k20 => k_is)
    (case a21 => k_is)
    (case l21 => k_is)
    (case c21 => k_is)
    (case k21 => k_is)
    (case a22 => k_is)
    (case l22 => k_is)
    (case c22 => k_is)
    (case k22 => k_is)
    (case a23 => k_is)
    (case l23 => k_is)
    (case c23 => k_is)
    (case k23 => k_is)
    (case a24 => k_is)
    (case l24 => k_is)
    (case c24 => k_is)
    (case k24 => k_is)
    (case a25 => k_is)
    (case l25 => k_is)
    (case c25 => k_is)
    (case k25 => k_is)
    (case a26 => k_is)
    (case l26 => k_is)
    (case c26 => k_is)
    (case k26 => k_is)
    (case a27 => k_is)
    (case l27 => k_is)
    (case c27 => k_is)
    (case k27 => k_is)
    (case a28 => k_is)
    (case l28 => k_is)
    (case c28 => k_is)
    (case k28 => k_is)
    (case a29 => k_is)
    (case l29 => k_is)
    (case c29 => k_is)
    (case k29 => k_is)
    (case a30 => k_is)
    (case l30 => k_is)
    (case c30 => k_is)
    (case k30 => k_is)
    (case y129 => k_is)
    (case y229 => rfl)
    (case y329 => first | k_is | rfl | decide +kernel)
    (case y429 => kernel_rfl)
    (case y529 => exact hts _ (by first | k_mem | decide))
    (case z_all => k_is)
    (case z_any => k_is)
    (case z_bool => k_is)
    (case z_enumerate => k_is)
    (case z_int => k_is)
    (case z_isinstance => k_is)
    (case z_len => k_is)
    (case z_list => k_is)
    (case z_max => k_is)
    (case z_range => k_is)
    (case z_repr => k_is)
    (case z_sorted => k_is)
    (case z_sum => k_is)
    (case z_tuple => k_is)
    (case m_MOST_LENGTH => k_is)
    (case m_MOST_LETTER => k_is)
    (case hD => k_is)
    (case xI => k_is)
    (case x1 => k_is)
    (case x2 => k_is)
    (case x3 => k_is)
    (case x4 => rfl)
    (case x5 => k_is)
    (case x6 => rfl)
    (case x7 => first | rfl | decide +kernel)
    (case x8 => k_is)
    (case x9 => k_is)
    (case x10 => k_is)
    (case x11 => k_is)
    (case x12 => first | rfl | decide +kernel)
    (case x13 => k_is)
    (case x14 => k_is)
    (case x15 => k_is)
    (case x16 => k_is)
    (case x18 => k_is)
    (case x17 => k_is)
    (case g_InvalidBoard => k_is)
    (case g1_InvalidBoard => k_is)
    (case g2_InvalidBoard => first | rfl | decide +kernel)
    (case g30_InvalidBoard => k_is)
    (case g31_InvalidBoard => k_is)
    (case g32_InvalidBoard => k_is)
    (case g33_InvalidBoard => k_is)
    (case g34_InvalidBoard => k_is)
    (case g35_InvalidBoard => k_is)
    (case g4_InvalidBoard => k_is)
    (case g5_InvalidBoard => k_is)
    (case g6_InvalidBoard => k_is)
    (case g7_InvalidBoard => first | k_is | rfl)
    (case g8_InvalidBoard => first | k_is | rfl)
    (case g9_InvalidBoard => k_is)
    (case ga_InvalidBoard => k_is)
    (case gb_InvalidBoard => k_is)
    (case gc_InvalidBoard => k_is)
    (case ge_InvalidBoard => first | k_is | rfl)
    (case gd_InvalidBoard => first | k_is | rfl)
    (case g_InvalidBox => k_is)
    (case g1_InvalidBox => k_is)
    (case g2_InvalidBox => first | rfl | decide +kernel)
    (case g30_InvalidBox => k_is)
    (case g31_InvalidBox => k_is)
    (case g32_InvalidBox => k_is)
    (case g33_InvalidBox => k_is)
    (case g34_InvalidBox => k_is)
    (case g35_InvalidBox => k_is)
    (case g4_InvalidBox => k_is)
    (case g5_InvalidBox => k_is)
    (case g6_InvalidBox => k_is)
    (case g7_InvalidBox => first | k_is | rfl)
    (case g8_InvalidBox => first | k_is | rfl)
    (case g9_InvalidBox => k_is)
    (case ga_InvalidBox => k_is)
    (case gb_InvalidBox => k_is)
    (case gc_InvalidBox => k_is)
    (case ge_InvalidBox => first | k_is | rfl)
    (case gd_InvalidBox => first | k_is | rfl)
    (case g_InvalidList => k_is)
    (case g1_InvalidList => k_is)
    (case g2_InvalidList => first | rfl | decide +kernel)
    (case g30_InvalidList => k_is)
    (case g31_InvalidList => k_is)
    (case g32_InvalidList => k_is)
    (case g33_InvalidList => k_is)
    (case g34_InvalidList => k_is)
    (case g35_InvalidList => k_is)
    (case g4_InvalidList => k_is)
    (case g5_InvalidList => k_is)
    (case g6_InvalidList => k_is)
    (case g7_InvalidList => first | k_is | rfl)
    (case g8_InvalidList => first | k_is | rfl)
    (case g9_InvalidList => k_is)
    (case ga_InvalidList => k_is)
    (case gb_InvalidList => k_is)
    (case gc_InvalidList => k_is)
    (case ge_InvalidList => first | k_is | rfl)
    (case gd_InvalidList => first | k_is | rfl)
    (case g_InvalidNumber => k_is)
    (case g1_InvalidNumber => k_is)
    (case g2_InvalidNumber => first | rfl | decide +kernel)
    (case g30_InvalidNumber => k_is)
    (case g31_InvalidNumber => k_is)
    (case g32_InvalidNumber => k_is)
    (case g33_InvalidNumber => k_is)
    (case g34_InvalidNumber => k_is)
    (case g35_InvalidNumber => k_is)
    (case g4_InvalidNumber => k_is)
    (case g5_InvalidNumber => k_is)
    (case g6_InvalidNumber => k_is)
    (case g7_InvalidNumber => first | k_is | rfl)
    (case g8_InvalidNumber => first | k_is | rfl)
    (case g9_InvalidNumber => k_is)
    (case ga_InvalidNumber => k_is)
    (case gb_InvalidNumber => k_is)
    (case gc_InvalidNumber => k_is)
    (case ge_InvalidNumber => first | k_is | rfl)
    (case gd_InvalidNumber => first | k_is | rfl)
    (case g_InvalidOrder => k_is)
    (case g1_InvalidOrder => k_is)
    (case g2_InvalidOrder => first | rfl | decide +kernel)
    (case g30_InvalidOrder => k_is)
    (case g31_InvalidOrder => k_is)
    (case g32_InvalidOrder => k_is)
    (case g33_InvalidOrder => k_is)
    (case g34_InvalidOrder => k_is)
    (case g35_InvalidOrder => k_is)
    (case g4_InvalidOrder => k_is)
    (case g5_InvalidOrder => k_is)
    (case g6_InvalidOrder => k_is)
    (case g7_InvalidOrder => first | k_is | rfl)
    (case g8_InvalidOrder => first | k_is | rfl)
    (case g9_InvalidOrder => k_is)
    (case ga_InvalidOrder => k_is)
    (case gb_InvalidOrder => k_is)
    (case gc_InvalidOrder => k_is)
    (case ge_InvalidOrder => first | k_is | rfl)
    (case gd_InvalidOrder => first | k_is | rfl)
    (case g_InvalidShape => k_is)
    (case g1_InvalidShape => k_is)
    (case g2_InvalidShape => first | rfl | decide +kernel)
    (case g30_InvalidShape => k_is)
    (case g31_InvalidShape => k_is)
    (case g32_InvalidShape => k_is)
    (case g33_InvalidShape => k_is)
    (case g34_InvalidShape => k_is)
    (case g35_InvalidShape => k_is)
    (case g4_InvalidShape => k_is)
    (case g5_InvalidShape => k_is)
    (case g6_InvalidShape => k_is)
    (case g7_InvalidShape => first | k_is | rfl)
    (case g8_InvalidShape => first | k_is | rfl)
    (case g9_InvalidShape => k_is)
    (case ga_InvalidShape => k_is)
    (case gb_InvalidShape => k_is)
    (case gc_InvalidShape => k_is)
    (case ge_InvalidShape => first | k_is | rfl)
    (case gd_InvalidShape => first | k_is | rfl)
    (case g_InvalidWord => k_is)
    (case g1_InvalidWord => k_is)
    (case g2_InvalidWord => first | rfl | decide +kernel)
    (case g30_InvalidWord => k_is)
    (case g31_InvalidWord => k_is)
    (case g32_InvalidWord => k_is)
    (case g33_InvalidWord => k_is)
    (case g34_InvalidWord => k_is)
    (case g35_InvalidWord => k_is)
    (case g4_InvalidWord => k_is)
    (case g5_InvalidWord => k_is)
    (case g6_InvalidWord => k_is)
    (case g7_InvalidWord => first | k_is | rfl)
    (case g8_InvalidWord => first | k_is | rfl)
    (case g9_InvalidWord => k_is)
    (case ga_InvalidWord => k_is)
    (case gb_InvalidWord => k_is)
    (case gc_InvalidWord => k_is)
    (case ge_InvalidWord => first | k_is | rfl)
    (case gd_InvalidWord => first | k_is | rfl)
    (case g_TooMany => k_is)
    (case g1_TooMany => k_is)
    (case g2_TooMany => first | rfl | decide +kernel)
    (case g30_TooMany => k_is)
    (case g31_TooMany => k_is)
    (case g32_TooMany => k_is)
    (case g33_TooMany => k_is)
    (case g34_TooMany => k_is)
    (case g35_TooMany => k_is)
    (case g4_TooMany => k_is)
    (case g5_TooMany => k_is)
    (case g6_TooMany => k_is)
    (case g7_TooMany => first | k_is | rfl)
    (case g8_TooMany => first | k_is | rfl)
    (case g9_TooMany => k_is)
    (case ga_TooMany => k_is)
    (case gb_TooMany => k_is)
    (case gc_TooMany => k_is)
    (case ge_TooMany => first | k_is | rfl)
    (case gd_TooMany => first | k_is | rfl)
    (case g_Unlike => k_is)
    (case g1_Unlike => k_is)
    (case g2_Unlike => first | rfl | decide +kernel)
    (case g30_Unlike => k_is)
    (case g31_Unlike => k_is)
    (case g32_Unlike => k_is)
    (case g33_Unlike => k_is)
    (case g34_Unlike => k_is)
    (case g35_Unlike => k_is)
    (case g4_Unlike => k_is)
    (case g5_Unlike => k_is)
    (case g6_Unlike => k_is)
    (case g7_Unlike => first | k_is | rfl)
    (case g8_Unlike => first | k_is | rfl)
    (case g9_Unlike => k_is)
    (case ga_Unlike => k_is)
    (case gb_Unlike => k_is)
    (case gc_Unlike => k_is)
    (case ge_Unlike => first | k_is | rfl)
    (case gd_Unlike => first | k_is | rfl)
    (case q_InvalidBoard_InvalidBoard => first | k_is | rfl | decide +kernel)
    (case q_InvalidBoard_InvalidBox => first | k_is | rfl | decide +kernel)
    (case q_InvalidBoard_InvalidList => first | k_is | rfl | decide +kernel)
    (case q_InvalidBoard_InvalidNumber => first | k_is | rfl | decide +kernel)
    (case q_InvalidBoard_InvalidOrder => first | k_is | rfl | decide +kernel)
    (case q_InvalidBoard_InvalidShape => first | k_is | rfl | decide +kernel)
    (case q_InvalidBoard_InvalidWord => first | k_is | rfl | decide +kernel)
    (case q_InvalidBoard_TooMany => first | k_is | rfl | decide +kernel)
    (case q_InvalidBoard_Unlike => first | k_is | rfl | decide +kernel)
    (case q_InvalidBox_InvalidBoard => first | k_is | rfl | decide +kernel)
    (case q_InvalidBox_InvalidBox => first | k_is | rfl | decide +kernel)
    (case q_InvalidBox_InvalidList => first | k_is | rfl | decide +kernel)
    (case q_InvalidBox_InvalidNumber => first | k_is | rfl | decide +kernel)
    (case q_InvalidBox_InvalidOrder => first | k_is | rfl | decide +kernel)
    (case q_InvalidBox_InvalidShape => first | k_is | rfl | decide +kernel)
    (case q_InvalidBox_InvalidWord => first | k_is | rfl | decide +kernel)
    (case q_InvalidBox_TooMany => first | k_is | rfl | decide +kernel)
    (case q_InvalidBox_Unlike => first | k_is | rfl | decide +kernel)
    (case q_InvalidList_InvalidBoard => first | k_is | rfl | decide +kernel)
    (case q_InvalidList_InvalidBox => first | k_is | rfl | decide +kernel)
    (case q_InvalidList_InvalidList => first | k_is | rfl | decide +kernel)
    (case q_InvalidList_InvalidNumber => first | k_is | rfl | decide +kernel)
    (case q_InvalidList_InvalidOrder => first | k_is | rfl | decide +kernel)
    (case q_InvalidList_InvalidShape => first | k_is | rfl | decide +kernel)
    (case q_InvalidList_InvalidWord => first | k_is | rfl | decide +kernel)
    (case q_InvalidList_TooMany => first | k_is | rfl | decide +kernel)
    (case q_InvalidList_Unlike => first | k_is | rfl | decide +kernel)
    (case q_InvalidNumber_InvalidBoard => first | k_is | rfl | decide +kernel)
    (case q_InvalidNumber_InvalidBox => first | k_is | rfl | decide +kernel)
    (case q_InvalidNumber_InvalidList => first | k_is | rfl | decide +kernel)
    (case q_InvalidNumber_InvalidNumber => first | k_is | rfl | decide +kernel)
    (case q_InvalidNumber_InvalidOrder => first | k_is | rfl | decide +kernel)
    (case q_InvalidNumber_InvalidShape => first | k_is | rfl | decide +kernel)
    (case q_InvalidNumber_InvalidWord => first | k_is | rfl | decide +kernel)
    (case q_InvalidNumber_TooMany => first | k_is | rfl | decide +kernel)
    (case q_InvalidNumber_Unlike => first | k_is | rfl | decide +kernel)
    (case q_InvalidOrder_InvalidBoard => first | k_is | rfl | decide +kernel)
    (case q_InvalidOrder_InvalidBox => first | k_is | rfl | decide +kernel)
    (case q_InvalidOrder_InvalidList => first | k_is | rfl | decide +kernel)
    (case q_InvalidOrder_InvalidNumber => first | k_is | rfl | decide +kernel)
    (case q_InvalidOrder_InvalidOrder => first | k_is | rfl | decide +kernel)
    (case q_InvalidOrder_InvalidShape => first | k_is | rfl | decide +kernel)
    (case q_InvalidOrder_InvalidWord => first | k_is | rfl | decide +kernel)
    (case q_InvalidOrder_TooMany => first | k_is | rfl | decide +kernel)
    (case q_InvalidOrder_Unlike => first | k_is | rfl | decide +kernel)
    (case q_InvalidShape_InvalidBoard => first | k_is | rfl | decide +kernel)
    (case q_InvalidShape_InvalidBox => first | k_is | rfl | decide +kernel)
    (case q_InvalidShape_InvalidList => first | k_is | rfl | decide +kernel)
    (case q_InvalidShape_InvalidNumber => first | k_is | rfl | decide +kernel)
    (case q_InvalidShape_InvalidOrder => first | k_is | rfl | decide +kernel)
    (case q_InvalidShape_InvalidShape => first | k_is | rfl | decide +kernel)
    (case q_InvalidShape_InvalidWord => first | k_is | rfl | decide +kernel)
    (case q_InvalidShape_TooMany => first | k_is | rfl | decide +kernel)
    (case q_InvalidShape_Unlike => first | k_is | rfl | decide +kernel)
    (case q_InvalidWord_InvalidBoard => first | k_is | rfl | decide +kernel)
    (case q_InvalidWord_InvalidBox => first | k_is | rfl | decide +kernel)
    (case q_InvalidWord_InvalidList => first | k_is | rfl | decide +kernel)
    (case q_InvalidWord_InvalidNumber => first | k_is | rfl | decide +kernel)
    (case q_InvalidWord_InvalidOrder => first | k_is | rfl | decide +kernel)
    (case q_InvalidWord_InvalidShape => first | k_is | rfl | decide +kernel)
    (case q_InvalidWord_InvalidWord => first | k_is | rfl | decide +kernel)
    (case q_InvalidWord_TooMany => first | k_is | rfl | decide +kernel)
    (case q_InvalidWord_Unlike => first | k_is | rfl | decide +kernel)
    (case q_TooMany_InvalidBoard => first | k_is | rfl | decide +kernel)
    (case q_TooMany_InvalidBox => first | k_is | rfl | decide +kernel)
    (case q_TooMany_InvalidList => first | k_is | rfl | decide +kernel)
    (case q_TooMany_InvalidNumber => first | k_is | rfl | decide +kernel)
    (case q_TooMany_InvalidOrder => first | k_is | rfl | decide +kernel)
    (case q_TooMany_InvalidShape => first | k_is | rfl | decide +kernel)
    (case q_TooMany_InvalidWord => first | k_is | rfl | decide +kernel)
    (case q_TooMany_TooMany => first | k_is | rfl | decide +kernel)
    (case q_TooMany_Unlike => first | k_is | rfl | decide +kernel)
    (case q_Unlike_InvalidBoard => first | k_is | rfl | decide +kernel)
    (case q_Unlike_InvalidBox => first | k_is | rfl | decide +kernel)
    (case q_Unlike_InvalidList => first | k_is | rfl | decide +kernel)
    (case q_Unlike_InvalidNumber => first | k_is | rfl | decide +kernel)
    (case q_Unlike_InvalidOrder => first | k_is | rfl | decide +kernel)
    (case q_Unlike_InvalidShape => first | k_is | rfl | decide +kernel)
    (case q_Unlike_InvalidWord => first | k_is | rfl | decide +kernel)
    (case q_Unlike_TooMany => first | k_is | rfl | decide +kernel)
    (case q_Unlike_Unlike => first | k_is | rfl | decide +kernel)
