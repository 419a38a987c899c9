import PyProof.Rows.All
import Wide.All
import OpenK.AllK
import Wide.FinOn
import PySem.Challenge.RW_pairedboards_k77_whole_boxes_below_ways
import KE.OsGo
import HandS.ForMost
import HandS.ForExc
import HandS.IsInst
import HandS.Style
import HandS.Lambda
import HandS.Iter
import HandS.Comp
import HandS.ExcOwn
import HandS.WordsExc
import HandS.WideBits
import HandS.Deep
import HandS.More
import PyProof.ReprRoads
import PyProof.Draws
import KE.KExcSuper
import HandS.ExcInit
import HandS.ExcIs
import HandS.ExcSuper
import HandS.ExcField
import HandS.ExcValue
import HandS.Ends
import HandS.NoneIn
import PyProof.ReprLen
import PyProof.Rows.ReprOcc
import PyProof.StrLawsTight
import PyProof.StrLawsIn
import PyProof.Rows.RegReprOcc
set_option Elab.async false
set_option linter.all false
set_option maxRecDepth 100000
set_option autoImplicit false
set_option maxHeartbeats 0
/-! Plain data, who may change it, the configuration of a frame. -/
namespace Im
open PySem PySem.Spec PyProof.Rows L2
abbrev St := L2.St
inductive D where
  | non | bl (b : Bool) | int (i : Int) | str (x : Str)
  | tup (xs : List D) | lst (xs : List D)
  | edict
  | fn (x : Str)
  | exc (c : Str) (v : D)
  | scr (ns : List Int)
  | clo (n : Nat) (xs : List D)
  | tl (n : Nat) (xs : List D)
  deriving Inhabited
/-- may be changed by the program -/
def Chg : HO → Prop
  | .lst _ | .dK _ | .dT _ | .set _ _ | .ins _ _ _ => True
  | _ => False
/-- the script, where it stands -/
def ScrAt (K : PySem.W.Frag) (H : Hp) (a : Addr) (ns : List Int) : Prop := (∃ o, H a = some (.frz o (.lst (ns.map V.int)))) ∨
  ∃ (o : Obj) (its : Array Value) (n : Nat), K.lookup a = some o ∧ o.cls = .type "list" ∧ o.dict = none ∧ o.data = .seq its n ∧ its.size ≤ sizeLine ∧ Vals (ns.map V.int) its.toList
theorem ScrAt.sq {K : PySem.W.Frag} {H : Hp} {a : Addr} {ns : List Int} (h : ScrAt K H a ns) : SqL K H a (ns.map V.int) := by
  rcases h with ⟨o, h⟩ | h
  · exact .inl (.inr ⟨o, h⟩)
  · exact .inr h
/-- all but what F says stays -/
def Stay (F : Addr → Prop) (H H' : Hp) : Prop := ∀ a o, H a = some o → ¬ F a → H' a = some o
/-- what never changes stays -/
def StayI (H H' : Hp) : Prop := ∀ a o, H a = some o → ¬ Chg o → H' a = some o
structure GI where
  K : PySem.W.Frag
  fn : Str → Option Addr
  cls : Str → Option Addr
  exc : Hp → Addr → Str → V → Prop
  clo : Hp → Addr → Nat → List V → Prop
  excS : ∀ H H' a c v, StayI H H' → exc H a c v → exc H' a c v
  cloS : ∀ H H' a n vs, StayI H H' → clo H a n vs → clo H' a n vs
section
variable (G : GI) (Z : Addr → Prop) (H : Hp)
mutual
/-- v is d in the heap H: lists down to the depth k are owned (at fp), the others stand still (in Z) -/
inductive Own : Nat → V → D → List Addr → Prop
  | non {k : Nat} : Own k .non .non []
  | bl {k : Nat} {b : Bool} : Own k (.bl b) (.bl b) []
  | int {k : Nat} {i : Int} : Own k (.int i) (.int i) []
  | str {k : Nat} {x : Str} : Own k (.str x) (.str x) []
  | tup {k : Nat} {a : Addr} {vs : List V} {ds : List D} {fp : List Addr} : H a = some (.tup vs) → OwnL k vs ds fp → Own k (.ref a) (.tup ds) fp
  | lst {a : Addr} {vs : List V} {ds : List D} : Z a → H a = some (.lst vs) → OwnL 0 vs ds [] → Own 0 (.ref a) (.lst ds) []
  | own {k : Nat} {a : Addr} {vs : List V} {ds : List D} {fp : List Addr} : H a = some (.lst vs) → OwnL k vs ds fp → Own (k + 1) (.ref a) (.lst ds) (a :: fp)
  | ed0 {a : Addr} : Z a → H a = some (.dK []) → Own 0 (.ref a) .edict []
  | edS {k : Nat} {a : Addr} : H a = some (.dK []) → Own (k + 1) (.ref a) .edict [a]
  | scr {k : Nat} {a : Addr} {ns : List Int} : ScrAt G.K H a ns → Own k (.ref a) (.scr ns) []
  | fn {k : Nat} {x : Str} {f : Addr} : G.fn x = some f → Own k (.ref f) (.fn x) []
  | exc {k : Nat} {a : Addr} {c : Str} {v : V} {d : D} : G.exc H a c v → Own 0 v d [] → Own k (.ref a) (.exc c d) []
  | clo {k : Nat} {a : Addr} {n : Nat} {vs : List V} {ds : List D} : G.clo H a n vs → OwnL 0 vs ds [] → Own k (.ref a) (.clo n ds) []
  | tag {k : Nat} {a : Addr} {n : Nat} {ds : List D} {fp : List Addr} : G.clo H a n [] → Own k (.ref a) (.lst ds) fp → Own k (.ref a) (.tl n ds) fp
inductive OwnL : Nat → List V → List D → List Addr → Prop
  | nil {k : Nat} : OwnL k [] [] []
  | cons {k : Nat} {v : V} {d : D} {vs : List V} {ds : List D} {fp fps : List Addr} : Own k v d fp → OwnL k vs ds fps → OwnL k (v :: vs) (d :: ds) (fp ++ fps)
end
end
section
variable {G : GI} {Z Z' : Addr → Prop} {H H' : Hp}
/-- at depth 0 nothing is owned -/
theorem own_zero : ∀ {k : Nat} {v : V} {d : D} {fp : List Addr}, Own G Z H k v d fp → k = 0 → fp = [] := by
  intro k v d fp h
  induction h using Own.rec (motive_2 := fun k vs ds fp _ => k = 0 → fp = []) with
  | non | bl | int | str | fn | scr | ed0 => intro _; rfl
  | lst => intro _; rfl
  | exc => intro _; rfl
  | clo => intro _; rfl
  | tag _ _ ih => exact ih
  | tup _ _ ih => exact ih
  | own _ _ ih => intro e; cases e
  | edS => intro e; cases e
  | nil => rfl
  | cons _ _ ih1 ih2 => rename_i e; rw [ih1 e, ih2 e]; rfl
theorem Own.z0 {v : V} {d : D} {fp : List Addr} (h : Own G Z H 0 v d fp) : fp = [] := own_zero h rfl
theorem OwnL.z0 {vs : List V} {ds : List D} {fp : List Addr} (h : OwnL G Z H 0 vs ds fp) : fp = [] := by
  suffices ∀ {k : Nat} {vs : List V} {ds : List D} {fp : List Addr}, OwnL G Z H k vs ds fp → k = 0 → fp = [] from this h rfl
  intro k vs ds fp h e
  induction vs generalizing ds fp with
  | nil => cases h; rfl
  | cons v vs ih =>
    cases h with
    | cons h1 h2 => rw [own_zero h1 e, ih h2]; rfl
/-- what is owned can be changed, and stands -/
theorem Own.chg : ∀ {k : Nat} {v : V} {d : D} {fp : List Addr}, Own G Z H k v d fp → ∀ a ∈ fp, ∃ o, H a = some o ∧ Chg o := by
  intro k v d fp h
  induction h using Own.rec (motive_2 := fun k vs ds fp _ => ∀ a ∈ fp, ∃ o, H a = some o ∧ Chg o) with
  | non | bl | int | str | fn | scr | ed0 => intro a h; cases h
  | lst => intro a h; cases h
  | exc => intro a h; cases h
  | clo => intro a h; cases h
  | tag _ _ ih => exact ih
  | tup _ _ ih => exact ih
  | own e _ ih =>
    intro a h
    rcases List.mem_cons.mp h with rfl | h
    · exact ⟨_, e, trivial⟩
    · exact ih a h
  | edS e =>
    intro a h
    rcases List.mem_cons.mp h with rfl | h
    · exact ⟨_, e, trivial⟩
    · cases h
  | nil => rename_i a h; cases h
  | cons _ _ ih1 ih2 =>
    rename_i a h
    rcases List.mem_append.mp h with h | h
    · exact ih1 a h
    · exact ih2 a h
theorem OwnL.chg {k : Nat} {vs : List V} {ds : List D} {fp : List Addr} (h : OwnL G Z H k vs ds fp) : ∀ a ∈ fp, ∃ o, H a = some o ∧ Chg o := by
  induction vs generalizing ds fp with
  | nil => cases h; intro a h; cases h
  | cons v vs ih =>
    cases h with
    | cons h1 h2 =>
      intro a h
      rcases List.mem_append.mp h with h | h
      · exact h1.chg a h
      · exact ih h2 a h
/-- kept, where Z, fp and what never changes is kept -/
theorem own_keep (hI : StayI H H') (hz : ∀ a, Z a → Z' a ∧ ∀ o, H a = some o → H' a = some o) : ∀ {k : Nat} {v : V} {d : D} {fp : List Addr}, Own G Z H k v d fp → (∀ a ∈ fp, ∀ o, H a = some o → H' a = some o) → Own G Z' H' k v d fp := by
  intro k v d fp h
  induction h using Own.rec (motive_2 := fun k vs ds fp _ => (∀ a ∈ fp, ∀ o, H a = some o → H' a = some o) → OwnL G Z' H' k vs ds fp) with
  | non => intro _; exact .non
  | bl => intro _; exact .bl
  | int => intro _; exact .int
  | str => intro _; exact .str
  | fn e => intro _; exact .fn e
  | scr e =>
    intro _
    rcases e with ⟨o, e⟩ | e
    · exact .scr (.inl ⟨o, hI _ _ e fun z => z⟩)
    · exact .scr (.inr e)
  | ed0 z e => intro _; exact .ed0 (hz _ z).1 ((hz _ z).2 _ e)
  | edS e => intro hf; exact .edS (hf _ List.mem_cons_self _ e)
  | lst z e _ ih =>
    intro hf
    refine .lst (hz _ z).1 ?_ (ih hf)
    exact (hz _ z).2 _ e
  | exc e _ ih => intro hf; exact .exc (G.excS _ _ _ _ _ hI e) (ih hf)
  | clo e _ ih => intro hf; exact .clo (G.cloS _ _ _ _ _ hI e) (ih hf)
  | tag e _ ih => intro hf; exact .tag (G.cloS _ _ _ _ _ hI e) (ih hf)
  | tup e _ ih => intro hf; exact .tup (hI _ _ e (fun z => z)) (ih hf)
  | own e _ ih => intro hf; exact .own (hf _ List.mem_cons_self _ e) (ih fun a ha => hf a (List.mem_cons_of_mem _ ha))
  | nil => exact .nil
  | cons _ _ ih1 ih2 => rename_i hf; exact .cons (ih1 fun a ha => hf a (List.mem_append_left _ ha)) (ih2 fun a ha => hf a (List.mem_append_right _ ha))
theorem ownL_keep (hI : StayI H H') (hz : ∀ a, Z a → Z' a ∧ ∀ o, H a = some o → H' a = some o) {k : Nat} {vs : List V} {ds : List D} {fp : List Addr} (h : OwnL G Z H k vs ds fp) (hf : ∀ a ∈ fp, ∀ o, H a = some o → H' a = some o) : OwnL G Z' H' k vs ds fp := by
  induction vs generalizing ds fp with
  | nil => cases h; exact .nil
  | cons v vs ih =>
    cases h with
    | cons h1 h2 => exact .cons (own_keep hI hz h1 fun a ha => hf a (List.mem_append_left _ ha)) (ih h2 fun a ha => hf a (List.mem_append_right _ ha))
/-- more stands still -/
theorem Own.monoZ {k : Nat} {v : V} {d : D} {fp : List Addr} (h : Own G Z H k v d fp) (hz : ∀ a, Z a → Z' a) : Own G Z' H k v d fp := own_keep (fun _ _ e _ => e) (fun a z => ⟨hz a z, fun _ e => e⟩) h fun _ _ _ e => e
theorem OwnL.monoZ {k : Nat} {vs : List V} {ds : List D} {fp : List Addr} (h : OwnL G Z H k vs ds fp) (hz : ∀ a, Z a → Z' a) : OwnL G Z' H k vs ds fp := ownL_keep (fun _ _ e _ => e) (fun a z => ⟨hz a z, fun _ e => e⟩) h fun _ _ _ e => e
/-- given up: all of it stands still from now on -/
theorem Own.freeze {k : Nat} {v : V} {d : D} {fp : List Addr} (h : Own G Z H k v d fp) : Own G (fun a => Z a ∨ a ∈ fp) H 0 v d [] := by
  induction h using Own.rec (motive_2 := fun k vs ds fp _ => OwnL G (fun a => Z a ∨ a ∈ fp) H 0 vs ds []) with
  | non => exact .non
  | bl => exact .bl
  | int => exact .int
  | str => exact .str
  | fn e => exact .fn e
  | scr e => exact .scr e
  | ed0 z e => exact .ed0 (.inl z) e
  | edS e => exact .ed0 (.inr List.mem_cons_self) e
  | lst z e _ ih => exact .lst (.inl z) e ih
  | exc e _ ih => exact .exc e ih
  | clo e _ ih => exact .clo e ih
  | tag e _ ih => exact .tag e ih
  | tup e _ ih => exact .tup e ih
  | own e _ ih => exact .lst (.inr List.mem_cons_self) e (ih.monoZ fun a z => z.elim .inl fun m => .inr (List.mem_cons_of_mem _ m))
  | nil => exact .nil
  | cons _ _ ih1 ih2 => exact .cons (ih1.monoZ fun a z => z.elim .inl fun m => .inr (List.mem_append_left _ m)) (ih2.monoZ fun a z => z.elim .inl fun m => .inr (List.mem_append_right _ m))
theorem OwnL.freeze {k : Nat} {vs : List V} {ds : List D} {fp : List Addr} (h : OwnL G Z H k vs ds fp) : OwnL G (fun a => Z a ∨ a ∈ fp) H 0 vs ds [] := by
  induction vs generalizing ds fp with
  | nil => cases h; exact .nil
  | cons v vs ih =>
    cases h with
    | cons h1 h2 => exact .cons (h1.freeze.monoZ fun a z => z.elim .inl fun m => .inr (List.mem_append_left _ m)) ((ih h2).monoZ fun a z => z.elim .inl fun m => .inr (List.mem_append_right _ m))
/-- given up below the depth j -/
theorem Own.lower {k : Nat} {v : V} {d : D} {fp : List Addr} (h : Own G Z H k v d fp) : ∀ {j : Nat}, j ≤ k → fp.Nodup → ∃ fp', fp'.Sublist fp ∧ Own G (fun a => Z a ∨ (a ∈ fp ∧ a ∉ fp')) H j v d fp' := by
  induction h using Own.rec (motive_2 := fun k vs ds fp _ => ∀ {j : Nat}, j ≤ k → fp.Nodup → ∃ fp', fp'.Sublist fp ∧ OwnL G (fun a => Z a ∨ (a ∈ fp ∧ a ∉ fp')) H j vs ds fp') with
  | non => intro j _ _; exact ⟨_, .refl _, .non⟩
  | bl => intro j _ _; exact ⟨_, .refl _, .bl⟩
  | int => intro j _ _; exact ⟨_, .refl _, .int⟩
  | str => intro j _ _; exact ⟨_, .refl _, .str⟩
  | fn e => intro j _ _; exact ⟨_, .refl _, .fn e⟩
  | scr e => intro j _ _; exact ⟨_, .refl _, .scr e⟩
  | ed0 z e => intro j hj _; obtain rfl : j = 0 := by omega
               exact ⟨_, .refl _, .ed0 (.inl z) e⟩
  | edS e =>
    intro j hj _
    cases j with
    | zero => exact ⟨[], List.nil_sublist _, .ed0 (.inr ⟨List.mem_cons_self, by simp⟩) e⟩
    | succ j => exact ⟨_, .refl _, .edS e⟩
  | lst z e h ih =>
    intro j hj _
    obtain rfl : j = 0 := by omega
    exact ⟨[], .refl _, .lst (.inl z) e (h.monoZ fun _ z => .inl z)⟩
  | exc e h ih => intro j _ _; exact ⟨_, .refl _, .exc e (h.monoZ fun _ z => .inl z)⟩
  | clo e h ih => intro j _ _; exact ⟨_, .refl _, .clo e (h.monoZ fun _ z => .inl z)⟩
  | tag e _ ih =>
    intro j hj nd
    obtain ⟨fp', s, b⟩ := ih hj nd
    exact ⟨fp', s, .tag e b⟩
  | tup e _ ih =>
    intro j hj nd
    obtain ⟨fp', a, b⟩ := ih hj nd
    exact ⟨fp', a, .tup e b⟩
  | @own k a vs ds fp e h ih =>
    intro j hj nd
    have nd' := List.nodup_cons.mp nd
    cases j with
    | zero =>
      refine ⟨[], List.nil_sublist _, .lst (.inr ⟨List.mem_cons_self, by simp⟩) e ?_⟩
      exact h.freeze.monoZ fun b z => z.elim .inl fun m => .inr ⟨List.mem_cons_of_mem _ m, by simp⟩
    | succ j =>
      obtain ⟨fp', s, b⟩ := ih (Nat.le_of_succ_le_succ hj) nd'.2
      refine ⟨a :: fp', s.cons_cons a, .own e (b.monoZ fun c z => z.elim .inl fun m => .inr ⟨List.mem_cons_of_mem _ m.1, fun z => ?_⟩)⟩
      rcases List.mem_cons.mp z with rfl | z
      · exact nd'.1 m.1
      · exact m.2 z
  | nil => exact ⟨_, .refl _, .nil⟩
  | cons _ _ ih1 ih2 =>
    rename_i fp1 fp2 _ _ j hj nd
    have n := List.nodup_append.mp nd
    obtain ⟨f1, s1, b1⟩ := ih1 hj n.1
    obtain ⟨f2, s2, b2⟩ := ih2 hj n.2.1
    refine ⟨f1 ++ f2, s1.append s2, .cons (b1.monoZ fun a z => z.elim .inl fun m => .inr ⟨List.mem_append_left _ m.1, fun z => ?_⟩) (b2.monoZ fun a z => z.elim .inl fun m => .inr ⟨List.mem_append_right _ m.1, fun z => ?_⟩)⟩
    · rcases List.mem_append.mp z with z | z
      · exact m.2 z
      · exact n.2.2 a m.1 a (s2.subset z) rfl
    · rcases List.mem_append.mp z with z | z
      · exact n.2.2 a (s1.subset z) a m.1 rfl
      · exact m.2 z
theorem OwnL.get : ∀ {k : Nat} {vs : List V} {ds : List D} {fp : List Addr} {i : Nat} {d : D}, OwnL G Z H k vs ds fp → ds[i]? = some d → ∃ v fp', vs[i]? = some v ∧ Own G Z H k v d fp' ∧ fp'.Sublist fp := by
  intro k vs
  induction vs with
  | nil => intro ds fp i d h e; cases h; simp at e
  | cons v vs ih =>
    intro ds fp i d h e
    cases h with
    | cons h1 h2 =>
      cases i with
      | zero =>
        simp only [List.getElem?_cons_zero, Option.some.injEq] at e
        subst e
        exact ⟨v, _, rfl, h1, List.sublist_append_left _ _⟩
      | succ i =>
        obtain ⟨v', fp', a, b, c⟩ := ih h2 (by simpa using e)
        exact ⟨v', fp', by simpa using a, b, c.trans (List.sublist_append_right _ _)⟩
theorem OwnL.len : ∀ {k : Nat} {vs : List V} {ds : List D} {fp : List Addr}, OwnL G Z H k vs ds fp → vs.length = ds.length := by
  intro k vs
  induction vs with
  | nil => intro ds fp h; cases h; rfl
  | cons v vs ih => intro ds fp h; cases h with | cons h1 h2 => simp [ih h2]
end
end Im
/-! The configuration of a frame: each name's plain value, who owns what; the base it is told from. -/
namespace Im
open PySem PySem.Spec PyProof.Rows L2
abbrev En := List (Option D)
structure Bs where
  H : Hp
  Z : Addr → Prop
  F : Addr → Prop
  Lk : Nat → Addr → Prop
  pins : List (Nat × V)
structure BOk (B : Bs) (lk : List Nat) : Prop where
  fch : ∀ a, B.F a → ∃ o, B.H a = some o ∧ Chg o
  lch : ∀ i a, B.Lk i a → ∃ o, B.H a = some o ∧ Chg o
  lki : ∀ i a, B.Lk i a → i ∈ lk
  zt : ∀ a, B.Z a → ∃ o, B.H a = some o
  zf : ∀ a, B.Z a → ¬ B.F a
  zl : ∀ i a, B.Z a → ¬ B.Lk i a
structure Cfg (G : GI) (B : Bs) (lk : List Nat) (Z : Addr → Prop) (σ : St) (H : Hp) (Γ : List Nat) (en : En) (fps : Nat → List Addr) : Prop where
  bok : BOk B lk
  len : σ.length = en.length
  rep : ∀ i d, en[i]? = some (some d) → ∃ v, σ[i]? = some (some v) ∧ Own G Z H (Γ.getD i 0) v d (fps i)
  emp : ∀ i, (∀ d, en[i]? ≠ some (some d)) → fps i = []
  nd : ∀ i, (fps i).Nodup
  dis : ∀ i j a, a ∈ fps i → a ∈ fps j → i = j
  nz : ∀ i a, a ∈ fps i → ¬ Z a
  zt : ∀ a, Z a → ∃ o, H a = some o
  keep : Stay B.F B.H H
  newf : ∀ i a, a ∈ fps i → B.F a ∨ B.Lk i a ∨ B.H a = none
  lkd : ∀ i j a, a ∈ fps i → B.Lk j a → i = j
  lks : ∀ i a, B.Lk i a → Z a ∨ a ∈ fps i
  zb : ∀ a, B.Z a → Z a
  zn : ∀ a, Z a → B.Z a ∨ B.F a ∨ (∃ i, B.Lk i a) ∨ B.H a = none
  pin : ∀ p ∈ B.pins, σ[p.1]? = some (some p.2)
/-- the base from here on -/
def rb (H : Hp) (Z : Addr → Prop) (lk : List Nat) (fps : Nat → List Addr) (pins : List (Nat × V)) : Bs := ⟨H, Z, fun a => ∃ i, i ∉ lk ∧ a ∈ fps i, fun i a => i ∈ lk ∧ a ∈ fps i, pins⟩
section
variable {G : GI} {B B' : Bs} {lk lk' L : List Nat} {Z Z' : Addr → Prop} {σ σ' : St} {H H' : Hp} {Γ Γ' : List Nat} {en en' : En} {fps fps' : Nat → List Addr}
theorem Cfg.fin (C : Cfg G B lk Z σ H Γ en fps) {i : Nat} {a : Addr} (h : a ∈ fps i) : ∃ d v, en[i]? = some (some d) ∧ σ[i]? = some (some v) ∧ Own G Z H (Γ.getD i 0) v d (fps i) := by
  by_cases e : ∃ d, en[i]? = some (some d)
  · obtain ⟨d, e⟩ := e
    obtain ⟨v, h1, h2⟩ := C.rep i d e
    exact ⟨d, v, e, h1, h2⟩
  · rw [C.emp i fun d q => e ⟨d, q⟩] at h
    cases h
theorem Cfg.chg (C : Cfg G B lk Z σ H Γ en fps) {i : Nat} {a : Addr} (h : a ∈ fps i) : ∃ o, H a = some o ∧ Chg o := by
  obtain ⟨d, v, _, _, h2⟩ := C.fin h
  exact h2.chg a h
theorem Cfg.stayI (C : Cfg G B lk Z σ H Γ en fps) : StayI B.H H := fun a o e n => C.keep a o e fun z => by
  obtain ⟨o', e', c⟩ := C.bok.fch a z
  rw [e] at e'; cases e'; exact n c
theorem Cfg.rebase (C : Cfg G B lk Z σ H Γ en fps) (lk' : List Nat) : Cfg G (rb H Z lk' fps B.pins) lk' Z σ H Γ en fps where
  bok := ⟨fun a ⟨i, _, h⟩ => C.chg h, fun i a ⟨_, h⟩ => C.chg h, fun i a h => h.1, C.zt, fun a z ⟨i, _, h⟩ => C.nz i a h z, fun i a z ⟨_, h⟩ => C.nz i a h z⟩
  len := C.len
  rep := C.rep
  emp := C.emp
  nd := C.nd
  dis := C.dis
  nz := C.nz
  zt := C.zt
  keep := fun a o e _ => e
  newf := fun i a h => by
    by_cases hi : i ∈ lk'
    · exact .inr (.inl ⟨hi, h⟩)
    · exact .inl ⟨i, hi, h⟩
  lkd := fun i j a h ⟨_, h'⟩ => C.dis i j a h h'
  lks := fun i a h => .inr h.2
  zb := fun a z => z
  zn := fun a z => .inl z
  pin := C.pin
/-- what was tracked at the elder base and may not change, may not change from here on -/
theorem Cfg.nF (C : Cfg G B lk Z σ H Γ en fps) (hl : ∀ i ∈ lk, i ∈ lk') {a : Addr} {o : HO} (e : B.H a = some o) (n : ¬ B.F a) : ¬ (rb H Z lk' fps B.pins).F a := fun ⟨i, hi, h⟩ => by
  rcases C.newf i a h with z | z | z
  · exact n z
  · exact hi (hl i (C.bok.lki i a z))
  · rw [e] at z; cases z
theorem Cfg.none_of (C : Cfg G B lk Z σ H Γ en fps) {a : Addr} (e : H a = none) : B.F a ∨ B.H a = none := by
  cases q : B.H a with
  | none => exact .inr rfl
  | some o =>
    by_cases z : B.F a
    · exact .inl z
    · have := C.keep a o q z
      rw [e] at this; cases this
/-- from the elder base -/
theorem Cfg.comp (C : Cfg G B lk Z σ H Γ en fps) (hl : ∀ i ∈ lk, i ∈ lk') (D : Cfg G (rb H Z lk' fps B.pins) lk' Z' σ' H' Γ' en' fps') : Cfg G B lk Z' σ' H' Γ' en' fps' where
  bok := C.bok
  len := D.len
  rep := D.rep
  emp := D.emp
  nd := D.nd
  dis := D.dis
  nz := D.nz
  zt := D.zt
  keep := fun a o e n => D.keep a o (C.keep a o e n) (C.nF hl e n)
  newf := fun i a h => by
    rcases D.newf i a h with ⟨j, hj, z⟩ | ⟨hi, z⟩ | z
    · rcases C.newf j a z with y | y | y
      · exact .inl y
      · exact absurd (hl j (C.bok.lki j a y)) hj
      · exact .inr (.inr y)
    · exact C.newf i a z
    · rcases C.none_of z with y | y
      · exact .inl y
      · exact .inr (.inr y)
  lkd := fun i j a h y => by
    rcases C.lks j a y with z | z
    · exact absurd (D.zb a z) (D.nz i a h)
    · exact D.lkd i j a h ⟨hl j (C.bok.lki j a y), z⟩
  lks := fun i a y => by
    rcases C.lks i a y with z | z
    · exact .inl (D.zb a z)
    · exact D.lks i a ⟨hl i (C.bok.lki i a y), z⟩
  zb := fun a z => D.zb a (C.zb a z)
  zn := fun a z => by
    have fr : ∀ i, a ∈ fps i → B.Z a ∨ B.F a ∨ (∃ i, B.Lk i a) ∨ B.H a = none := fun i h => by
      rcases C.newf i a h with y | y | y
      · exact .inr (.inl y)
      · exact .inr (.inr (.inl ⟨i, y⟩))
      · exact .inr (.inr (.inr y))
    rcases D.zn a z with y | ⟨i, _, h⟩ | ⟨i, _, h⟩ | y
    · exact C.zn a y
    · exact fr i h
    · exact fr i h
    · rcases C.none_of y with w | w
      · exact .inr (.inl w)
      · exact .inr (.inr (.inr w))
  pin := D.pin
/-- what stands still, with what is lent -/
def Zl (Z : Addr → Prop) (L : List Nat) (fps : Nat → List Addr) : Addr → Prop := fun a => Z a ∨ ∃ i ∈ L, a ∈ fps i
theorem Zl_nil {a : Addr} : Zl Z [] fps a ↔ Z a := ⟨fun z => z.elim id (fun ⟨_, h, _⟩ => nomatch h), fun z => .inl z⟩
/-- a value that is held -/
structure Held (G : GI) (B : Bs) (L : List Nat) (Z : Addr → Prop) (H : Hp) (fps : Nat → List Addr) (κ : Nat) (v : V) (d : D) (fp : List Addr) : Prop where
  own : Own G (Zl Z L fps) H κ v d fp
  nd : fp.Nodup
  nz : ∀ a ∈ fp, ¬ Z a
  ds : ∀ a ∈ fp, ∀ i, a ∉ fps i
  nw : ∀ a ∈ fp, B.F a ∨ B.H a = none
structure HeldL (G : GI) (B : Bs) (L : List Nat) (Z : Addr → Prop) (H : Hp) (fps : Nat → List Addr) (κ : Nat) (vs : List V) (ds : List D) (fp : List Addr) : Prop where
  own : OwnL G (Zl Z L fps) H κ vs ds fp
  nd : fp.Nodup
  nz : ∀ a ∈ fp, ¬ Z a
  ds : ∀ a ∈ fp, ∀ i, a ∉ fps i
  nw : ∀ a ∈ fp, B.F a ∨ B.H a = none
variable {κ : Nat} {v : V} {d : D} {fp : List Addr} {vs : List V} {dsL : List D}
theorem stay_all (C : Cfg G B lk Z σ H Γ en fps) (hl : ∀ i ∈ lk, i ∈ lk') (hL : ∀ i ∈ L, i ∈ lk') (D : Cfg G (rb H Z lk' fps B.pins) lk' Z' σ' H' Γ' en' fps') :
    StayI H H' ∧ (∀ a, Zl Z L fps a → Zl Z' L fps' a ∧ ∀ o, H a = some o → H' a = some o) ∧ ∀ a, (∀ i, a ∉ fps i) → ∀ o, H a = some o → H' a = some o := by
  refine ⟨D.stayI, fun a z => ?_, fun a n o e => D.keep a o e fun ⟨i, _, h⟩ => n i h⟩
  rcases z with z | ⟨i, hi, h⟩
  · exact ⟨.inl (D.zb a z), fun o e => D.keep a o e fun ⟨j, _, h⟩ => C.nz j a h z⟩
  · refine ⟨?_, fun o e => D.keep a o e fun ⟨j, hj, h'⟩ => ?_⟩
    · rcases D.lks i a ⟨hL i hi, h⟩ with z | z
      · exact .inl z
      · exact .inr ⟨i, hi, z⟩
    · have := C.dis i j a h h'
      subst this
      exact hj (hL i hi)
theorem fp_stay (C : Cfg G B lk Z σ H Γ en fps) (D : Cfg G (rb H Z lk' fps B.pins) lk' Z' σ' H' Γ' en' fps') (hl : ∀ i ∈ lk, i ∈ lk') (hc : ∀ a ∈ fp, ∃ o, H a = some o ∧ Chg o) (nz : ∀ a ∈ fp, ¬ Z a) (ds : ∀ a ∈ fp, ∀ i, a ∉ fps i) :
    (∀ a ∈ fp, ¬ Z' a) ∧ ∀ a ∈ fp, ∀ i, a ∉ fps' i := by
  refine ⟨fun a h z => ?_, fun a h i h' => ?_⟩
  · obtain ⟨o, e, _⟩ := hc a h
    rcases D.zn a z with y | ⟨i, _, y⟩ | ⟨i, _, y⟩ | y
    · exact nz a h y
    · exact ds a h i y
    · exact ds a h i y
    · have y : H a = none := y
      rw [e] at y; cases y
  · obtain ⟨o, e, _⟩ := hc a h
    rcases D.newf i a h' with ⟨j, _, y⟩ | ⟨_, y⟩ | y
    · exact ds a h j y
    · exact ds a h i y
    · have y : H a = none := y
      rw [e] at y; cases y
/-- held on -/
theorem Held.stay (h : Held G B L Z H fps κ v d fp) (C : Cfg G B lk Z σ H Γ en fps) (hl : ∀ i ∈ lk, i ∈ lk') (hL : ∀ i ∈ L, i ∈ lk') (D : Cfg G (rb H Z lk' fps B.pins) lk' Z' σ' H' Γ' en' fps') : Held G B L Z' H' fps' κ v d fp := by
  obtain ⟨s1, s2, s3⟩ := stay_all C hl hL D
  obtain ⟨t1, t2⟩ := fp_stay C D hl h.own.chg h.nz h.ds
  exact ⟨own_keep s1 s2 h.own fun a ha => s3 a (h.ds a ha), h.nd, t1, t2, h.nw⟩
theorem HeldL.stay (h : HeldL G B L Z H fps κ vs dsL fp) (C : Cfg G B lk Z σ H Γ en fps) (hl : ∀ i ∈ lk, i ∈ lk') (hL : ∀ i ∈ L, i ∈ lk') (D : Cfg G (rb H Z lk' fps B.pins) lk' Z' σ' H' Γ' en' fps') : HeldL G B L Z' H' fps' κ vs dsL fp := by
  obtain ⟨s1, s2, s3⟩ := stay_all C hl hL D
  obtain ⟨t1, t2⟩ := fp_stay C D hl h.own.chg h.nz h.ds
  exact ⟨ownL_keep s1 s2 h.own fun a ha => s3 a (h.ds a ha), h.nd, t1, t2, h.nw⟩
/-- told from the elder base -/
theorem Held.comp (C : Cfg G B lk Z σ H Γ en fps) (hl : ∀ i ∈ lk, i ∈ lk') (h : Held G (rb H Z lk' fps B.pins) L Z' H' fps' κ v d fp) : Held G B L Z' H' fps' κ v d fp :=
  ⟨h.own, h.nd, h.nz, h.ds, fun a ha => by
    rcases h.nw a ha with ⟨j, hj, z⟩ | z
    · rcases C.newf j a z with y | y | y
      · exact .inl y
      · exact absurd (hl j (C.bok.lki j a y)) hj
      · exact .inr y
    · exact C.none_of z⟩
theorem HeldL.comp (C : Cfg G B lk Z σ H Γ en fps) (hl : ∀ i ∈ lk, i ∈ lk') (h : HeldL G (rb H Z lk' fps B.pins) L Z' H' fps' κ vs dsL fp) : HeldL G B L Z' H' fps' κ vs dsL fp :=
  ⟨h.own, h.nd, h.nz, h.ds, fun a ha => by
    rcases h.nw a ha with ⟨j, hj, z⟩ | z
    · rcases C.newf j a z with y | y | y
      · exact .inl y
      · exact absurd (hl j (C.bok.lki j a y)) hj
      · exact .inr y
    · exact C.none_of z⟩
/-- two that are held have nothing in common -/
theorem held_apart (C : Cfg G B lk Z σ H Γ en fps) {fp' : List Addr} (hc : ∀ a ∈ fp, ∃ o, H a = some o ∧ Chg o) (ds : ∀ a ∈ fp, ∀ i, a ∉ fps i) (nw : ∀ a ∈ fp', (rb H Z lk' fps B.pins).F a ∨ H a = none) : ∀ a ∈ fp, a ∉ fp' := fun a h h' => by
  obtain ⟨o, e, _⟩ := hc a h
  rcases nw a h' with ⟨j, _, z⟩ | z
  · exact ds a h j z
  · rw [e] at z; cases z
theorem Held.fewer (h : Held G B [] Z H fps κ v d fp) (L : List Nat) : Held G B L Z H fps κ v d fp := ⟨h.own.monoZ fun a z => .inl (Zl_nil.mp z), h.nd, h.nz, h.ds, h.nw⟩
theorem Held.moreL {L' : List Nat} (h : Held G B L Z H fps κ v d fp) (hs : ∀ i ∈ L, i ∈ L') : Held G B L' Z H fps κ v d fp := ⟨h.own.monoZ fun a z => z.elim .inl fun ⟨i, m, q⟩ => .inr ⟨i, hs i m, q⟩, h.nd, h.nz, h.ds, h.nw⟩
theorem HeldL.moreL {L' : List Nat} (h : HeldL G B L Z H fps κ vs dsL fp) (hs : ∀ i ∈ L, i ∈ L') : HeldL G B L' Z H fps κ vs dsL fp := ⟨h.own.monoZ fun a z => z.elim .inl fun ⟨i, m, q⟩ => .inr ⟨i, hs i m, q⟩, h.nd, h.nz, h.ds, h.nw⟩
/-! ### the heap grows: new objects -/
/-- a new object, untracked so far -/
theorem Cfg.grow (C : Cfg G B lk Z σ H Γ en fps) {p : Addr} {o : HO} (hp : H p = none) : Cfg G B lk Z σ (upd H p o) Γ en fps where
  bok := C.bok
  len := C.len
  rep := fun i d e => by
    obtain ⟨v, h1, h2⟩ := C.rep i d e
    have up : ∀ a u, H a = some u → upd H p o a = some u := fun a u q => by rw [upd_ne (ne_of_none q hp)]; exact q
    exact ⟨v, h1, own_keep (fun a u q _ => up a u q) (fun a z => ⟨z, fun u q => up a u q⟩) h2 fun a _ u q => up a u q⟩
  emp := C.emp
  nd := C.nd
  dis := C.dis
  nz := C.nz
  zt := fun a z => by
    obtain ⟨u, q⟩ := C.zt a z
    exact ⟨u, by rw [upd_ne (ne_of_none q hp)]; exact q⟩
  keep := fun a u e n => by
    have q := C.keep a u e n
    rw [upd_ne (ne_of_none q hp)]; exact q
  newf := C.newf
  lkd := C.lkd
  lks := C.lks
  zb := C.zb
  zn := C.zn
  pin := C.pin
theorem upd_keep {p : Addr} {o : HO} (hp : H p = none) : ∀ a u, H a = some u → upd H p o a = some u := fun a u q => by rw [upd_ne (ne_of_none q hp)]; exact q
theorem Held.grow (h : Held G B L Z H fps κ v d fp) {p : Addr} {o : HO} (hp : H p = none) : Held G B L Z (upd H p o) fps κ v d fp :=
  ⟨own_keep (fun a u q _ => upd_keep hp a u q) (fun a z => ⟨z, fun u q => upd_keep hp a u q⟩) h.own fun a _ u q => upd_keep hp a u q, h.nd, h.nz, h.ds, h.nw⟩
theorem HeldL.grow (h : HeldL G B L Z H fps κ vs dsL fp) {p : Addr} {o : HO} (hp : H p = none) : HeldL G B L Z (upd H p o) fps κ vs dsL fp :=
  ⟨ownL_keep (fun a u q _ => upd_keep hp a u q) (fun a z => ⟨z, fun u q => upd_keep hp a u q⟩) h.own fun a _ u q => upd_keep hp a u q, h.nd, h.nz, h.ds, h.nw⟩
/-- a tuple of what is held -/
theorem HeldL.tup (C : Cfg G B lk Z σ H Γ en fps) (h : HeldL G B L Z H fps κ vs dsL fp) {p : Addr} (hp : H p = none) : Held G B L Z (upd H p (.tup vs)) fps κ (.ref p) (.tup dsL) fp :=
  let g := h.grow (o := .tup vs) hp
  ⟨.tup upd_same g.own, g.nd, g.nz, g.ds, g.nw⟩
/-- a list of what is held -/
theorem HeldL.lst (C : Cfg G B lk Z σ H Γ en fps) (h : HeldL G B L Z H fps κ vs dsL fp) {p : Addr} (hp : H p = none) : Held G B L Z (upd H p (.lst vs)) fps (κ + 1) (.ref p) (.lst dsL) (p :: fp) := by
  have g := h.grow (o := .lst vs) hp
  have np : ∀ a ∈ fp, a ≠ p := fun a ha e => by
    obtain ⟨o, q, _⟩ := h.own.chg a ha
    rw [e, hp] at q; cases q
  refine ⟨.own upd_same g.own, List.nodup_cons.mpr ⟨fun m => np p m rfl, g.nd⟩, fun a ha => ?_, fun a ha i => ?_, fun a ha => ?_⟩
  · rcases List.mem_cons.mp ha with rfl | ha
    · intro z
      obtain ⟨u, q⟩ := C.zt _ z
      rw [hp] at q; cases q
    · exact g.nz a ha
  · rcases List.mem_cons.mp ha with rfl | ha
    · intro m
      obtain ⟨u, q, _⟩ := C.chg m
      rw [hp] at q; cases q
    · exact g.ds a ha i
  · rcases List.mem_cons.mp ha with rfl | ha
    · exact C.none_of hp
    · exact g.nw a ha
end
end Im
/-! Expressions: what they compute over plain values. -/
namespace Im
open PySem PySem.Spec PyProof.Rows L2
inductive Res where
  | ok (d : D) (en : En) | exc (c : Str) (x : D) | bad
inductive ResL where
  | ok (ds : List D) (en : En) | exc (c : Str) (x : D) | bad
abbrev EM := En → Res
abbrev AM := En → ResL
/-- an exception in the air: of the class named c, its value x -/
structure XOk (G : GI) (B : Bs) (H' : Hp) (c : Str) (x : D) (C dd : Addr) : Prop where
  cls : G.cls c = some C
  ex : ∃ v Z', H' dd = some (.xd [(("value" : Str), v)]) ∧ Own G Z' H' 0 v x [] ∧ (∀ a, B.Z a → Z' a) ∧ (∀ a, Z' a → B.Z a ∨ B.F a ∨ (∃ i, B.Lk i a) ∨ B.H a = none) ∧ (∀ a, Z' a → ∃ o, H' a = some o)
  keep : Stay B.F B.H H'
section
variable {G : GI} {B : Bs} {W : WX} {lk lk' L L' : List Nat} {Z Z' : Addr → Prop} {σ σ' : St} {H H' : Hp} {Γ Γ' Γ1 Γ2 : List Nat} {en en' : En} {fps fps' : Nat → List Addr} {κ κ' : Nat}
theorem XOk.comp {c : Str} {x : D} {Cc dd : Addr} (C : Cfg G B lk Z σ H Γ en fps) (hl : ∀ i ∈ lk, i ∈ lk') (h : XOk G (rb H Z lk' fps B.pins) H' c x Cc dd) : XOk G B H' c x Cc dd := by
  obtain ⟨v, Z', e, o, zb, zn, zt⟩ := h.ex
  have fr : ∀ i a, a ∈ fps i → B.Z a ∨ B.F a ∨ (∃ i, B.Lk i a) ∨ B.H a = none := fun i a h => by
    rcases C.newf i a h with y | y | y
    · exact .inr (.inl y)
    · exact .inr (.inr (.inl ⟨i, y⟩))
    · exact .inr (.inr (.inr y))
  refine ⟨h.cls, ⟨v, Z', e, o, fun a z => zb a (C.zb a z), fun a z => ?_, zt⟩, fun a o e n => h.keep a o (C.keep a o e n) (C.nF hl e n)⟩
  rcases zn a z with y | ⟨i, _, y⟩ | ⟨i, _, y⟩ | y
  · exact C.zn a y
  · exact fr i a y
  · exact fr i a y
  · rcases C.none_of y with w | w
    · exact .inr (.inl w)
    · exact .inr (.inr (.inr w))
def OutE (G : GI) (B : Bs) (W : WX) (lk : List Nat) (κ : Nat) (L : List Nat) (Γ' : List Nat) (σ : St) (Q : VK) : Res → Prop
  | .ok d en' => ∀ v Z' H' fps' fp, Cfg G B lk Z' σ H' Γ' en' fps' → Held G B L Z' H' fps' κ v d fp → Q v H'
  | .exc c x => ∀ C dd H', XOk G B H' c x C dd → W (.ref C) (some dd) σ H'
  | .bad => False
def tE (G : GI) (W : WX) (lk Γ : List Nat) (κ : Nat) (L Γ' : List Nat) (m : EM) : TE := fun σ H Q =>
  ∃ B Z en fps, Cfg G B lk Z σ H Γ en fps ∧ OutE G B W lk κ L Γ' σ Q (m en)
/-- e computes m; its value is of the kind κ, with the names at L lent -/
def EI (X : Cx) (G : GI) (W : WX) (lk Γ : List Nat) (e : Expr) (κ : Nat) (L Γ' : List Nat) (m : EM) : Prop := PE X e (tE G W lk Γ κ L Γ' m)
theorem PE.imp {X : Cx} {e : Expr} {t t' : TE} (h : PE X e t) (i : ∀ σ H Q, t' σ H Q → t σ H Q) : PE X e t' := ⟨fun pins s σ H Q I q => h.run pins s σ H Q I (i σ H Q q)⟩
theorem PT.imp {X : Cx} {e : Expr} {t t' : TT} (h : PT X e t) (i : ∀ σ H Q, t' σ H Q → t σ H Q) : PT X e t' := ⟨fun pins s σ H Q I q => h.run pins s σ H Q I (i σ H Q q)⟩
theorem PW.imp {X : Cx} {e : Expr} {t t' : TT} (h : PW X e t) (i : ∀ σ H Q, t' σ H Q → t σ H Q) : PW X e t' := ⟨fun w pins s σ H Q I q => h.run w pins s σ H Q I (i σ H Q q)⟩
theorem PA.imp {X : Cx} {es : List Expr} {t t' : TA} (h : PA X es t) (i : ∀ σ H Q, t' σ H Q → t σ H Q) : PA X es t' := ⟨fun pos pins s σ H Q I q => h.run pos pins s σ H Q I (i σ H Q q)⟩
theorem PS.imp {X : Cx} {st : Stmt} {t t' : TS} (h : PS X st t) (i : ∀ D σ H, t' D σ H → t D σ H) : PS X st t' := ⟨fun pins s σ H D I q => h.run pins s σ H D I (i D σ H q)⟩
theorem PSs.imp {X : Cx} {st : List Stmt} {t t' : TS} (h : PSs X st t) (i : ∀ D σ H, t' D σ H → t D σ H) : PSs X st t' := ⟨fun pins s σ H D I q => h.run pins s σ H D I (i D σ H q)⟩
/-! ### scalars -/
/-- no list within -/
inductive ScV : V → D → Prop
  | non : ScV .non .non
  | bl {b : Bool} : ScV (.bl b) (.bl b)
  | int {i : Int} : ScV (.int i) (.int i)
  | str {x : Str} : ScV (.str x) (.str x)
theorem ScV.own {v : V} {d : D} (h : ScV v d) {k : Nat} : Own G Z H k v d [] := by
  cases h
  · exact .non
  · exact .bl
  · exact .int
  · exact .str
theorem Held.sc {v : V} {d : D} (h : ScV v d) : Held G B L Z H fps κ v d [] := ⟨h.own, List.nodup_nil, (fun _ h => nomatch h), (fun _ h => nomatch h), (fun _ h => nomatch h)⟩
theorem held_frz {v : V} {d : D} (h : Own G (Zl Z L fps) H 0 v d []) : Held G B L Z H fps 0 v d [] := ⟨h, List.nodup_nil, (fun _ h => nomatch h), (fun _ h => nomatch h), (fun _ h => nomatch h)⟩
variable {X : Cx} {pos : Pos}
/-! ### constants -/
def mC (d : D) : EM := fun en => .ok d en
theorem ei_int {i : Int} {j : Nat} : EI X G W lk Γ (.Constant (.int i) j pos) κ [] Γ (mC (.int i)) := PE.imp pe_int fun σ H Q ⟨B, Z, en, fps, C, o⟩ => o _ _ _ _ _ C (.sc .int)
theorem ei_bl {b : Bool} {j : Nat} : EI X G W lk Γ (.Constant (.bool b) j pos) κ [] Γ (mC (.bl b)) := PE.imp pe_bl fun σ H Q ⟨B, Z, en, fps, C, o⟩ => o _ _ _ _ _ C (.sc .bl)
theorem ei_non {j : Nat} : EI X G W lk Γ (.Constant .none j pos) κ [] Γ (mC .non) := PE.imp pe_non fun σ H Q ⟨B, Z, en, fps, C, o⟩ => o _ _ _ _ _ C (.sc .non)
theorem ei_str {x : Str} {j : Nat} : EI X G W lk Γ (.Constant (.str x) j pos) κ [] Γ (mC (.str x)) := PE.imp pe_str fun σ H Q ⟨B, Z, en, fps, C, o⟩ => o _ _ _ _ _ C (.sc .str)
/-- a number or text of the module -/
theorem ei_glob {x : Str} {v : V} {u : Value} {d : D} (hg : Gl X x) (hm : X.mg x = some u) (r : RelV v u) (sc : ScV v d) (hd : (x == ("__debug__" : Str)) = false := by decide) : EI X G W lk Γ (.Name x pos) κ [] Γ (mC d) :=
  PE.imp (pe_glob hg hm r hd) fun σ H Q ⟨B, Z, en, fps, C, o⟩ => o _ _ _ _ _ C (.sc sc)
/-- a def of the module as a value -/
theorem ei_fn {x : Str} {f : Addr} (hg : Gl X x) (hm : X.mg x = some (.ref f)) (hf : G.fn x = some f) (hd : (x == ("__debug__" : Str)) = false := by decide) : EI X G W lk Γ (.Name x pos) κ [] Γ (mC (.fn x)) :=
  PE.imp (pe_glob (v := .ref f) hg hm rfl hd) fun σ H Q ⟨B, Z, en, fps, C, o⟩ => o _ _ _ _ _ C ⟨.fn hf, List.nodup_nil, (fun _ h => nomatch h), (fun _ h => nomatch h), (fun _ h => nomatch h)⟩
/-! ### names -/
def mVar (i : Nat) : EM := fun en => match en[i]? with
  | some (some d) => .ok d en
  | _ => .bad
def mMove (i : Nat) : EM := fun en => match en[i]? with
  | some (some d) => .ok d (en.set i none)
  | _ => .bad
/-- no list within -/
def scD : D → Bool
  | .non | .bl _ | .int _ | .str _ => true
  | _ => false
theorem mVar_ok {i : Nat} {en : En} {P : Res → Prop} (hb : ¬ P .bad) (h : P (mVar i en)) : ∃ d, en[i]? = some (some d) ∧ P (.ok d en) := by
  unfold mVar at h
  split at h
  · rename_i d e
    exact ⟨d, e, h⟩
  · exact absurd h hb
theorem scD_scv {v : V} {d : D} {k : Nat} {fp : List Addr} (h : Own G Z H k v d fp) (s : scD d = true) : ScV v d ∧ fp = [] := by
  cases h <;> first
    | exact ⟨.non, rfl⟩
    | exact ⟨.bl, rfl⟩
    | exact ⟨.int, rfl⟩
    | exact ⟨.str, rfl⟩
    | (simp [scD] at s)
/-- a name whose value stands still -/
theorem ei_var {i : Nat} {x : Str} (hN : X.N[i]? = some x) (hv : Vis X.env.scope x) (hk : Γ.getD i 0 = 0) (hd : (x == ("__debug__" : Str)) = false := by decide) (hcd : (x == ("__classdict__" : Str)) = false := by decide) :
    EI X G W lk Γ (.Name x pos) 0 [] Γ (mVar i) := PE.imp (pe_var hN hv hd hcd) fun σ H Q ⟨B, Z, en, fps, C, o⟩ => by
  obtain ⟨d, e, o⟩ := mVar_ok (P := OutE G B W lk 0 [] Γ σ Q) (fun z => z) o
  obtain ⟨v, h1, h2⟩ := C.rep i d e
  rw [hk] at h2
  have z := h2.z0
  rw [z] at h2
  exact ⟨v, h1, o _ _ _ _ _ C (held_frz (h2.monoZ fun a z => Zl_nil.mpr z))⟩
/-- a name that holds a scalar -/
def mVarS (i : Nat) : EM := fun en => match en[i]? with
  | some (some d) => if scD d then .ok d en else .bad
  | _ => .bad
theorem ei_varS {i : Nat} {x : Str} (hN : X.N[i]? = some x) (hv : Vis X.env.scope x) (hd : (x == ("__debug__" : Str)) = false := by decide) (hcd : (x == ("__classdict__" : Str)) = false := by decide) :
    EI X G W lk Γ (.Name x pos) κ [] Γ (mVarS i) := PE.imp (pe_var hN hv hd hcd) fun σ H Q ⟨B, Z, en, fps, C, o⟩ => by
  unfold mVarS at o
  split at o
  · rename_i d e
    split at o
    · rename_i s
      obtain ⟨v, h1, h2⟩ := C.rep i d e
      exact ⟨v, h1, o _ _ _ _ _ C (.sc (scD_scv h2 s).1)⟩
    · exact o.elim
  · exact o.elim
/-- lent: seen, not given up -/
theorem ei_lend {i : Nat} {x : Str} (hN : X.N[i]? = some x) (hv : Vis X.env.scope x) (hd : (x == ("__debug__" : Str)) = false := by decide) (hcd : (x == ("__classdict__" : Str)) = false := by decide) :
    EI X G W lk Γ (.Name x pos) 0 [i] Γ (mVar i) := PE.imp (pe_var hN hv hd hcd) fun σ H Q ⟨B, Z, en, fps, C, o⟩ => by
  obtain ⟨d, e, o⟩ := mVar_ok (P := OutE G B W lk 0 [i] Γ σ Q) (fun z => z) o
  obtain ⟨v, h1, h2⟩ := C.rep i d e
  exact ⟨v, h1, o _ _ _ _ _ C (held_frz (h2.freeze.monoZ fun a z => z.elim .inl fun m => .inr ⟨i, List.mem_cons_self, m⟩))⟩
/-- given up: from now on it stands still -/
theorem Cfg.frz (C : Cfg G B lk Z σ H Γ en fps) (i : Nat) : Cfg G B lk (fun a => Z a ∨ a ∈ fps i) σ H (Γ.set i 0) en (fun j => if j = i then [] else fps j) where
  bok := C.bok
  len := C.len
  rep := fun j d e => by
    obtain ⟨v, h1, h2⟩ := C.rep j d e
    refine ⟨v, h1, ?_⟩
    by_cases hj : j = i
    · subst hj
      rw [if_pos rfl]
      have g : (Γ.set j 0).getD j 0 = 0 := by
        rw [List.getD_eq_getElem?_getD]
        by_cases hl : j < Γ.length
        · rw [List.getElem?_set_self hl]; rfl
        · rw [List.getElem?_eq_none (by simpa using hl)]; rfl
      rw [g]
      exact h2.freeze
    · rw [if_neg hj]
      have g : (Γ.set i 0).getD j 0 = Γ.getD j 0 := by
        rw [List.getD_eq_getElem?_getD, List.getD_eq_getElem?_getD, List.getElem?_set_ne (Ne.symm hj)]
      rw [g]
      exact h2.monoZ fun a z => .inl z
  emp := fun j e => by
    by_cases hj : j = i
    · rw [if_pos hj]
    · rw [if_neg hj]; exact C.emp j e
  nd := fun j => by
    by_cases hj : j = i
    · rw [if_pos hj]; exact List.nodup_nil
    · rw [if_neg hj]; exact C.nd j
  dis := fun j l a h h' => by
    split at h
    · cases h
    · split at h'
      · cases h'
      · exact C.dis j l a h h'
  nz := fun j a h => by
    split at h
    · cases h
    · rename_i hj
      intro z
      rcases z with z | z
      · exact C.nz j a h z
      · exact hj (C.dis j i a h z)
  zt := fun a z => by
    rcases z with z | z
    · exact C.zt a z
    · obtain ⟨o, e, _⟩ := C.chg z
      exact ⟨o, e⟩
  keep := C.keep
  newf := fun j a h => by
    split at h
    · cases h
    · exact C.newf j a h
  lkd := fun j l a h => by
    split at h
    · cases h
    · exact C.lkd j l a h
  lks := fun j a h => by
    rcases C.lks j a h with z | z
    · exact .inl (.inl z)
    · by_cases hj : j = i
      · subst hj; exact .inl (.inr z)
      · rw [if_neg hj]; exact .inr z
  zb := fun a z => .inl (C.zb a z)
  zn := fun a z => by
    rcases z with z | z
    · exact C.zn a z
    · rcases C.newf i a z with y | y | y
      · exact .inr (.inl y)
      · exact .inr (.inr (.inl ⟨i, y⟩))
      · exact .inr (.inr (.inr y))
  pin := C.pin
theorem ei_share {i : Nat} {x : Str} (hN : X.N[i]? = some x) (hv : Vis X.env.scope x) (hd : (x == ("__debug__" : Str)) = false := by decide) (hcd : (x == ("__classdict__" : Str)) = false := by decide) :
    EI X G W lk Γ (.Name x pos) 0 [] (Γ.set i 0) (mVar i) := PE.imp (pe_var hN hv hd hcd) fun σ H Q ⟨B, Z, en, fps, C, o⟩ => by
  obtain ⟨d, e, o⟩ := mVar_ok (P := OutE G B W lk 0 [] (Γ.set i 0) σ Q) (fun z => z) o
  obtain ⟨v, h1, h2⟩ := C.rep i d e
  exact ⟨v, h1, o _ _ _ _ _ (C.frz i) (held_frz (h2.freeze.monoZ fun a z => Zl_nil.mpr z))⟩
/-- a name forgotten -/
theorem Cfg.drop (C : Cfg G B lk Z σ H Γ en fps) (i : Nat) (hi : i ∉ lk) : Cfg G B lk Z σ H Γ (en.set i none) (fun j => if j = i then [] else fps j) where
  bok := C.bok
  len := by rw [List.length_set]; exact C.len
  rep := fun j d e => by
    by_cases hj : j = i
    · subst hj
      exfalso
      by_cases hl : j < en.length
      · rw [List.getElem?_set_self hl] at e; cases e
      · rw [List.getElem?_eq_none (by simpa using hl)] at e; cases e
    · rw [List.getElem?_set_ne (Ne.symm hj)] at e
      rw [if_neg hj]
      exact C.rep j d e
  emp := fun j e => by
    by_cases hj : j = i
    · rw [if_pos hj]
    · rw [if_neg hj]
      exact C.emp j fun d q => e d (by rw [List.getElem?_set_ne (Ne.symm hj)]; exact q)
  nd := fun j => by
    by_cases hj : j = i
    · rw [if_pos hj]; exact List.nodup_nil
    · rw [if_neg hj]; exact C.nd j
  dis := fun j l a h h' => by
    split at h
    · cases h
    · split at h'
      · cases h'
      · exact C.dis j l a h h'
  nz := fun j a h => by
    split at h
    · cases h
    · exact C.nz j a h
  zt := C.zt
  keep := C.keep
  newf := fun j a h => by
    split at h
    · cases h
    · exact C.newf j a h
  lkd := fun j l a h => by
    split at h
    · cases h
    · exact C.lkd j l a h
  lks := fun j a h => by
    rcases C.lks j a h with z | z
    · exact .inl z
    · have hj : j ≠ i := fun e => hi (e ▸ C.bok.lki j a h)
      rw [if_neg hj]; exact .inr z
  zb := C.zb
  zn := C.zn
  pin := C.pin
/-- moved out of the name -/
theorem ei_move {i : Nat} {x : Str} (hN : X.N[i]? = some x) (hv : Vis X.env.scope x) (hk : Γ.getD i 0 = κ) (hi : i ∉ lk) (hd : (x == ("__debug__" : Str)) = false := by decide) (hcd : (x == ("__classdict__" : Str)) = false := by decide) :
    EI X G W lk Γ (.Name x pos) κ [] Γ (mMove i) := PE.imp (pe_var hN hv hd hcd) fun σ H Q ⟨B, Z, en, fps, C, o⟩ => by
  unfold mMove at o
  split at o
  · rename_i d e
    obtain ⟨v, h1, h2⟩ := C.rep i d e
    rw [hk] at h2
    refine ⟨v, h1, o _ _ _ _ (fps i) (C.drop i hi) ⟨h2.monoZ fun a z => Zl_nil.mpr z, C.nd i, C.nz i, fun a h j h' => ?_, fun a h => ?_⟩⟩
    · split at h'
      · cases h'
      · rename_i hj
        exact hj (C.dis j i a h' h)
    · rcases C.newf i a h with y | y | y
      · exact .inl y
      · exact absurd (C.bok.lki i a y) hi
      · exact .inr y
  · exact o.elim
end
end Im
/-! Operands in general; operators, comparisons, and, or, not, tests. -/
namespace Im
open PySem PySem.Spec PyProof.Rows L2
/-- how an operand is told: a value of a kind, some names lent; or a list seen, its items standing still -/
inductive Md where
  | e (κ : Nat) (L : List Nat)
  | v (L : List Nat)
def Md.L : Md → List Nat
  | .e _ L => L
  | .v L => L
/-- a list seen (or anything that stands still) -/
def Vw (G : GI) (L : List Nat) (Z : Addr → Prop) (H : Hp) (fps : Nat → List Addr) (v : V) (d : D) : Prop :=
  Own G Z H 0 v d [] ∨ ∃ a vs ds, v = .ref a ∧ d = .lst ds ∧ H a = some (.lst vs) ∧ OwnL G Z H 0 vs ds [] ∧ ∃ i ∈ L, a ∈ fps i
def Md.P (G : GI) (B : Bs) (Z : Addr → Prop) (H : Hp) (fps : Nat → List Addr) (v : V) (d : D) : Md → Prop
  | .e κ L => ∃ fp, Held G B L Z H fps κ v d fp
  | .v L => Vw G L Z H fps v d
section
variable {G : GI} {B : Bs} {W : WX} {lk lk' L L' : List Nat} {Z Z' : Addr → Prop} {σ σ' : St} {H H' : Hp} {Γ Γ' Γ1 Γ2 : List Nat} {en en' : En} {fps fps' : Nat → List Addr} {κ κ' : Nat} {v : V} {d : D}
theorem Vw.stay (h : Vw G L Z H fps v d) (C : Cfg G B lk Z σ H Γ en fps) (hl : ∀ i ∈ lk, i ∈ lk') (hL : ∀ i ∈ L, i ∈ lk') (D : Cfg G (rb H Z lk' fps B.pins) lk' Z' σ' H' Γ' en' fps') : Vw G L Z' H' fps' v d := by
  obtain ⟨s1, s2, s3⟩ := stay_all C hl hL D
  obtain ⟨_, z2, _⟩ := stay_all (L := []) C hl (fun _ h => nomatch h) D
  have zz : ∀ a, Z a → Z' a ∧ ∀ o, H a = some o → H' a = some o := fun a z => ⟨D.zb a z, (z2 a (.inl z)).2⟩
  rcases h with h | ⟨a, vs, ds, e1, e2, e3, h, i, hi, ha⟩
  · exact .inl (own_keep s1 zz h fun _ h => nomatch h)
  · have q := ownL_keep s1 zz h fun _ h => nomatch h
    have e4 := (s2 a (.inr ⟨i, hi, ha⟩)).2 _ e3
    rcases D.lks i a ⟨hL i hi, ha⟩ with z | z
    · exact .inl (e1 ▸ e2 ▸ .lst z e4 q)
    · exact .inr ⟨a, vs, ds, e1, e2, e4, q, i, hi, z⟩
theorem Md.stay {md : Md} (h : md.P G B Z H fps v d) (C : Cfg G B lk Z σ H Γ en fps) (hl : ∀ i ∈ lk, i ∈ lk') (hL : ∀ i ∈ md.L, i ∈ lk') (D : Cfg G (rb H Z lk' fps B.pins) lk' Z' σ' H' Γ' en' fps') : md.P G B Z' H' fps' v d := by
  cases md with
  | e κ L => obtain ⟨fp, h⟩ := h; exact ⟨fp, h.stay C hl hL D⟩
  | v L => exact Vw.stay h C hl hL D
theorem Md.comp {md : Md} (C : Cfg G B lk Z σ H Γ en fps) (hl : ∀ i ∈ lk, i ∈ lk') (h : md.P G (rb H Z lk' fps B.pins) Z' H' fps' v d) : md.P G B Z' H' fps' v d := by
  cases md with
  | e κ L => obtain ⟨fp, h⟩ := h; exact ⟨fp, Held.comp C hl h⟩
  | v L => exact h
/-- in any case it is that value -/
theorem Md.any {md : Md} (h : md.P G B Z H fps v d) : ∃ Zx k fp, Own G Zx H k v d fp := by
  cases md with
  | e κ L => obtain ⟨fp, h⟩ := h; exact ⟨_, _, _, h.own⟩
  | v L =>
    rcases h with h | ⟨a, vs, ds, e1, e2, e3, h, _⟩
    · exact ⟨_, _, _, h⟩
    · subst e1 e2
      exact ⟨Z, 1, _, Own.own e3 h⟩
def OutO (G : GI) (B : Bs) (W : WX) (lk : List Nat) (md : Md) (Γ' : List Nat) (σ : St) (Q : VK) : Res → Prop
  | .ok d en' => ∀ v Z' H' fps', Cfg G B lk Z' σ H' Γ' en' fps' → md.P G B Z' H' fps' v d → Q v H'
  | .exc c x => ∀ C dd H', XOk G B H' c x C dd → W (.ref C) (some dd) σ H'
  | .bad => False
def tO (G : GI) (W : WX) (lk Γ : List Nat) (md : Md) (Γ' : List Nat) (m : EM) : TE := fun σ H Q =>
  ∃ B Z en fps, Cfg G B lk Z σ H Γ en fps ∧ OutO G B W lk md Γ' σ Q (m en)
/-- an operand in general -/
def OI (X : Cx) (G : GI) (W : WX) (lk Γ : List Nat) (e : Expr) (md : Md) (Γ' : List Nat) (m : EM) : Prop := PE X e (tO G W lk Γ md Γ' m)
theorem OutO.toE {r : Res} {Q : VK} (h : OutO G B W lk (.e κ L) Γ' σ Q r) : OutE G B W lk κ L Γ' σ Q r := by
  cases r with
  | ok d en => exact fun v Z' H' fps' fp C q => h v Z' H' fps' C ⟨fp, q⟩
  | exc c x => exact h
  | bad => exact h
theorem OutE.toO {r : Res} {Q : VK} (h : OutE G B W lk κ L Γ' σ Q r) : OutO G B W lk (.e κ L) Γ' σ Q r := by
  cases r with
  | ok d en => exact fun v Z' H' fps' C ⟨fp, q⟩ => h v Z' H' fps' fp C q
  | exc c x => exact h
  | bad => exact h
variable {X : Cx} {pos : Pos} {m ma mb : EM} {e a b : Expr}
theorem oi_of (h : EI X G W lk Γ e κ L Γ' m) : OI X G W lk Γ e (.e κ L) Γ' m := PE.imp h fun σ H Q ⟨B, Z, en, fps, C, o⟩ => ⟨B, Z, en, fps, C, o.toE⟩
theorem ei_of (h : OI X G W lk Γ e (.e κ L) Γ' m) : EI X G W lk Γ e κ L Γ' m := PE.imp h fun σ H Q ⟨B, Z, en, fps, C, o⟩ => ⟨B, Z, en, fps, C, o.toO⟩
def mSee (i : Nat) : EM := fun en => match en[i]? with
  | some (some (.lst ds)) => .ok (.lst ds) en
  | _ => .bad
/-- a name's list, seen -/
theorem oi_name {i : Nat} {x : Str} (hN : X.N[i]? = some x) (hv : Vis X.env.scope x) (hk : Γ.getD i 0 ≤ 1) (hd : (x == ("__debug__" : Str)) = false := by decide) (hcd : (x == ("__classdict__" : Str)) = false := by decide) :
    OI X G W lk Γ (.Name x pos) (.v [i]) Γ (mSee i) := PE.imp (pe_var hN hv hd hcd) fun σ H Q ⟨B, Z, en, fps, C, o⟩ => by
  unfold mSee at o
  split at o
  · rename_i ds e
    obtain ⟨v, h1, h2⟩ := C.rep i _ e
    refine ⟨v, h1, o _ _ _ _ C ?_⟩
    generalize hf : fps i = f at h2
    have hc : Γ.getD i 0 = 0 ∨ Γ.getD i 0 = 1 := by omega
    rcases hc with hc | hc
    · rw [hc] at h2
      have z := h2.z0
      rw [z] at h2
      exact .inl h2
    · rw [hc] at h2
      cases h2 with
      | own q ql =>
        have z := ql.z0
        subst z
        exact .inr ⟨_, _, _, rfl, rfl, q, ql, i, List.mem_cons_self, by rw [hf]; exact List.mem_cons_self⟩
  · exact o.elim
/-! ### two operands -/
inductive Res2 where
  | ok (d1 d2 : D) (en : En) | exc (c : Str) (x : D) | bad
def mm2 (ma mb : EM) : En → Res2 := fun en => match ma en with
  | .ok d1 en1 => match mb en1 with
    | .ok d2 en2 => .ok d1 d2 en2
    | .exc c x => .exc c x
    | .bad => .bad
  | .exc c x => .exc c x
  | .bad => .bad
def Out2 (G : GI) (B : Bs) (W : WX) (lk : List Nat) (mda mdb : Md) (Γ2 : List Nat) (σ : St) (R : V → V → Hp → Prop) : Res2 → Prop
  | .ok d1 d2 en2 => ∀ v1 v2 Z2 H2 fps2, Cfg G B lk Z2 σ H2 Γ2 en2 fps2 → mda.P G B Z2 H2 fps2 v1 d1 → mdb.P G B Z2 H2 fps2 v2 d2 → R v1 v2 H2
  | .exc c x => ∀ C dd H', XOk G B H' c x C dd → W (.ref C) (some dd) σ H'
  | .bad => False
theorem run2 {mda mdb : Md} {R : V → V → Hp → Prop} (C : Cfg G B lk Z σ H Γ en fps) (h : Out2 G B W lk mda mdb Γ2 σ R (mm2 ma mb en)) :
    tO G W lk Γ mda Γ1 ma σ H fun x H1 => tO G W (mda.L ++ lk) Γ1 mdb Γ2 mb σ H1 fun y H2 => R x y H2 := by
  refine ⟨B, Z, en, fps, C, ?_⟩
  unfold mm2 at h
  cases ea : ma en with
  | bad => rw [ea] at h; exact h.elim
  | exc c x => rw [ea] at h; exact h
  | ok d1 en1 =>
    rw [ea] at h
    dsimp only at h
    intro v1 Z1 H1 fps1 C1 h1
    refine ⟨rb H1 Z1 (mda.L ++ lk) fps1 B.pins, Z1, en1, fps1, C1.rebase _, ?_⟩
    have hl : ∀ i ∈ lk, i ∈ mda.L ++ lk := fun i h => List.mem_append_right _ h
    have hL : ∀ i ∈ mda.L, i ∈ mda.L ++ lk := fun i h => List.mem_append_left _ h
    cases eb : mb en1 with
    | bad => rw [eb] at h; exact h.elim
    | exc c x => rw [eb] at h; exact fun Cc dd H' x => h _ _ _ (x.comp C1 hl)
    | ok d2 en2 =>
      rw [eb] at h
      exact fun v2 Z2 H2 fps2 C2 h2 => h v1 v2 Z2 H2 fps2 (C1.comp hl C2) (Md.stay h1 C1 hl hL C2) (Md.comp C1 hl h2)
/-! ### operators whose value is a scalar -/
/-- by values: r holds where f tells a scalar -/
def Lk2 (G : GI) (r : R2) (f : D → D → Option D) : Prop := ∀ (H : Hp) (v1 v2 : V) (d1 d2 d : D) (Q : VK), (∃ Zx k fp, Own G Zx H k v1 d1 fp) → (∃ Zx k fp, Own G Zx H k v2 d2 fp) → f d1 d2 = some d → (∀ v, ScV v d → Q v H) → r v1 v2 H Q
def mB (f : D → D → Option D) (ma mb : EM) : EM := fun en => match mm2 ma mb en with
  | .ok d1 d2 en2 => match f d1 d2 with
    | some d => .ok d en2
    | none => .bad
  | .exc c x => .exc c x
  | .bad => .bad
theorem out2_of {r : R2} {f : D → D → Option D} {mda mdb : Md} {Q : VK} (lnk : Lk2 G r f) (o : OutE G B W lk κ [] Γ2 σ Q (mB f ma mb en)) : Out2 G B W lk mda mdb Γ2 σ (fun x y H2 => r x y H2 Q) (mm2 ma mb en) := by
  unfold mB at o
  cases e : mm2 ma mb en with
  | bad => rw [e] at o; exact o.elim
  | exc c x => rw [e] at o; exact o
  | ok d1 d2 en2 =>
    rw [e] at o
    dsimp only at o
    intro v1 v2 Z2 H2 fps2 C2 h1 h2
    cases ef : f d1 d2 with
    | none => rw [ef] at o; exact o.elim
    | some d =>
      rw [ef] at o
      exact lnk H2 v1 v2 d1 d2 d Q (Md.any h1) (Md.any h2) ef fun v s => o v Z2 H2 fps2 [] C2 (.sc s)
theorem ei_bin {op : Operator} {r : R2} {f : D → D → Option D} {mda mdb : Md} (ho : OpR X (binaryOp op) r) (lnk : Lk2 G r f) (ha : OI X G W lk Γ a mda Γ1 ma) (hb : OI X G W (mda.L ++ lk) Γ1 b mdb Γ2 mb) :
    EI X G W lk Γ (.BinOp a op b pos) κ [] Γ2 (mB f ma mb) := PE.imp (pe_op ho ha hb) fun σ H Q ⟨B, Z, en, fps, C, o⟩ => run2 C (out2_of lnk o)
theorem ei_cmp {op : CmpOp} {r : R2} {f : D → D → Option D} {mda mdb : Md} (ho : OpR X (compareOp op) r) (lnk : Lk2 G r f) (hm : behindInMarks op b = false) (ha : OI X G W lk Γ a mda Γ1 ma) (hb : OI X G W (mda.L ++ lk) Γ1 b mdb Γ2 mb) :
    EI X G W lk Γ (.Compare a [op] [b] pos) κ [] Γ2 (mB f ma mb) := PE.imp (pe_cmpR ho ha hb hm) fun σ H Q ⟨B, Z, en, fps, C, o⟩ => run2 C (out2_of lnk o)
/-! ### tests -/
def OutT (G : GI) (B : Bs) (W : WX) (lk Γ' : List Nat) (σ : St) (Q : Bool → Hp → Prop) : Res → Prop
  | .ok (.bl c) en' => ∀ Z' H' fps', Cfg G B lk Z' σ H' Γ' en' fps' → Q c H'
  | .ok _ _ => False
  | .exc c x => ∀ C dd H', XOk G B H' c x C dd → W (.ref C) (some dd) σ H'
  | .bad => False
def tT (G : GI) (W : WX) (lk Γ Γ' : List Nat) (m : EM) : TT := fun σ H Q =>
  ∃ B Z en fps, Cfg G B lk Z σ H Γ en fps ∧ OutT G B W lk Γ' σ Q (m en)
def TI (X : Cx) (G : GI) (W : WX) (lk Γ : List Nat) (e : Expr) (Γ' : List Nat) (m : EM) : Prop := PT X e (tT G W lk Γ Γ' m)
def WI (X : Cx) (G : GI) (W : WX) (lk Γ : List Nat) (e : Expr) (Γ' : List Nat) (m : EM) : Prop := PW X e (tT G W lk Γ Γ' m)
theorem ti_of_wi (h : WI X G W lk Γ e Γ' m) : TI X G W lk Γ e Γ' m := PW.pt h
theorem scv_bl {v : V} {c : Bool} {k : Nat} {fp : List Addr} (h : Own G Z H k v (.bl c) fp) : v = .bl c := by
  cases h; rfl
theorem outE_bl {Q : Bool → Hp → Prop} {r : Res} (o : OutT G B W lk Γ' σ Q r) : OutE G B W lk κ L Γ' σ (fun x H' => ∃ c, x = .bl c ∧ Q c H') r := by
  cases r with
  | bad => exact o
  | exc c x => exact o
  | ok d en' =>
    cases d with
    | bl c =>
      intro v Z' H' fps' fp C h
      exact ⟨c, scv_bl h.own, o Z' H' fps' C⟩
    | _ => exact o.elim
/-- an expression whose value is a bool -/
theorem ti_val (h : EI X G W lk Γ e κ L Γ' m) (he : ∀ whole, isTrue e X.env whole = (do let v ← whole; standAt e.pos; holding [v] (truthy v)) := by intro _; rfl) : TI X G W lk Γ e Γ' m :=
  PT.imp (pt_val h he) fun σ H Q ⟨B, Z, en, fps, C, o⟩ => ⟨B, Z, en, fps, C, outE_bl o⟩
theorem ti_cmp {op : CmpOp} {r : R2} {f : D → D → Option D} {mda mdb : Md} (ho : OpR X (compareOp op) r) (lnk : Lk2 G r f) (hm : behindInMarks op b = false) (ha : OI X G W lk Γ a mda Γ1 ma) (hb : OI X G W (mda.L ++ lk) Γ1 b mdb Γ2 mb) :
    TI X G W lk Γ (.Compare a [op] [b] pos) Γ2 (mB f ma mb) := PT.imp (pt_cmpR ho ha hb hm) fun σ H Q ⟨B, Z, en, fps, C, o⟩ => run2 C (out2_of lnk (outE_bl (κ := 0) o))
def mNot (m : EM) : EM := fun en => match m en with
  | .ok (.bl c) en' => .ok (.bl !c) en'
  | .ok _ _ => .bad
  | .exc c x => .exc c x
  | .bad => .bad
theorem outT_not {Q : Bool → Hp → Prop} (o : OutT G B W lk Γ' σ Q (mNot m en)) : OutT G B W lk Γ' σ (fun c H' => Q (!c) H') (m en) := by
  unfold mNot at o
  cases e : m en with
  | bad => rw [e] at o; exact o
  | exc c x => rw [e] at o; exact o
  | ok d en' =>
    rw [e] at o
    cases d with
    | bl c => exact o
    | _ => exact o.elim
theorem ti_not (h : TI X G W lk Γ a Γ' m) : TI X G W lk Γ (.UnaryOp .Not a pos) Γ' (mNot m) := PT.imp (pt_not h) fun σ H Q ⟨B, Z, en, fps, C, o⟩ => ⟨B, Z, en, fps, C, outT_not o⟩
def mAnd (ma mb : EM) : EM := fun en => match ma en with
  | .ok (.bl true) en1 => mb en1
  | .ok (.bl false) en1 => .ok (.bl false) en1
  | .ok _ _ => .bad
  | .exc c x => .exc c x
  | .bad => .bad
def mOr (ma mb : EM) : EM := fun en => match ma en with
  | .ok (.bl true) en1 => .ok (.bl true) en1
  | .ok (.bl false) en1 => mb en1
  | .ok _ _ => .bad
  | .exc c x => .exc c x
  | .bad => .bad
/-- further on, from where one stands -/
theorem OutT.comp {Q : Bool → Hp → Prop} {r : Res} {L : List Nat} (C : Cfg G B lk Z σ H Γ en fps) (o : OutT G B W lk Γ' σ Q r) : OutT G (rb H Z lk fps B.pins) W lk Γ' σ Q r := by
  cases r with
  | bad => exact o
  | exc c x => exact fun _ _ _ y => o _ _ _ (y.comp C fun _ h => h)
  | ok d en' =>
    cases d with
    | bl c => exact fun Z' H' fps' D => o Z' H' fps' (C.comp (fun _ h => h) D)
    | _ => exact o.elim
theorem wi_and1 (ha : TI X G W lk Γ a Γ' m) : WI X G W lk Γ (.BoolOp .And [a] pos) Γ' m := pw_and1 ha
theorem wi_or1 (ha : TI X G W lk Γ a Γ' m) : WI X G W lk Γ (.BoolOp .Or [a] pos) Γ' m := pw_or1 ha
theorem wi_and {rest : List Expr} (ha : TI X G W lk Γ a Γ ma) (hb : WI X G W lk Γ (.BoolOp .And (b :: rest) pos) Γ mb) : WI X G W lk Γ (.BoolOp .And (a :: b :: rest) pos) Γ (mAnd ma mb) :=
  PW.imp (pw_and ha hb) fun σ H Q ⟨B, Z, en, fps, C, o⟩ => by
    refine ⟨B, Z, en, fps, C, ?_⟩
    unfold mAnd at o
    cases e : ma en with
    | bad => rw [e] at o; exact o
    | exc c x => rw [e] at o; exact o
    | ok d en' =>
      rw [e] at o
      cases d with
      | bl c =>
        intro Z' H' fps' D
        cases c with
        | true =>
          rw [if_pos rfl]
          exact ⟨B, Z', en', fps', D, o⟩
        | false =>
          rw [if_neg Bool.false_ne_true]
          exact o Z' H' fps' D
      | _ => exact o.elim
theorem wi_or {rest : List Expr} (ha : TI X G W lk Γ a Γ ma) (hb : WI X G W lk Γ (.BoolOp .Or (b :: rest) pos) Γ mb) : WI X G W lk Γ (.BoolOp .Or (a :: b :: rest) pos) Γ (mOr ma mb) :=
  PW.imp (pw_or ha hb) fun σ H Q ⟨B, Z, en, fps, C, o⟩ => by
    refine ⟨B, Z, en, fps, C, ?_⟩
    unfold mOr at o
    cases e : ma en with
    | bad => rw [e] at o; exact o
    | exc c x => rw [e] at o; exact o
    | ok d en' =>
      rw [e] at o
      cases d with
      | bl c =>
        intro Z' H' fps' D
        cases c with
        | true =>
          rw [if_pos rfl]
          exact o Z' H' fps' D
        | false =>
          rw [if_neg Bool.false_ne_true]
          exact ⟨B, Z', en', fps', D, o⟩
      | _ => exact o.elim
/-! ### and, or, not, if as values (of bools) -/
theorem ei_one {op : PySem.BoolOp} (ha : EI X G W lk Γ a κ L Γ' m) : EI X G W lk Γ (.BoolOp op [a] pos) κ L Γ' m := pe_one ha
theorem ei_and {rest : List Expr} {κ1 : Nat} {L1 : List Nat} (ha : EI X G W lk Γ a κ1 L1 Γ ma) (hb : EI X G W lk Γ (.BoolOp .And (b :: rest) pos) κ [] Γ mb) : EI X G W lk Γ (.BoolOp .And (a :: b :: rest) pos) κ [] Γ (mAnd ma mb) :=
  PE.imp (pe_and ha hb) fun σ H Q ⟨B, Z, en, fps, C, o⟩ => by
    refine ⟨B, Z, en, fps, C, ?_⟩
    unfold mAnd at o
    cases e : ma en with
    | bad => rw [e] at o; exact o
    | exc c x => rw [e] at o; exact o
    | ok d en' =>
      rw [e] at o
      cases d with
      | bl c =>
        intro v Z' H' fps' fp D h
        refine ⟨c, scv_bl h.own, ?_⟩
        cases c with
        | true =>
          rw [if_pos rfl]
          exact ⟨B, Z', en', fps', D, o⟩
        | false =>
          rw [if_neg Bool.false_ne_true]
          exact o _ Z' H' fps' [] D (.sc .bl)
      | _ => exact o.elim
theorem ei_or {rest : List Expr} {κ1 : Nat} {L1 : List Nat} (ha : EI X G W lk Γ a κ1 L1 Γ ma) (hb : EI X G W lk Γ (.BoolOp .Or (b :: rest) pos) κ [] Γ mb) : EI X G W lk Γ (.BoolOp .Or (a :: b :: rest) pos) κ [] Γ (mOr ma mb) :=
  PE.imp (pe_or ha hb) fun σ H Q ⟨B, Z, en, fps, C, o⟩ => by
    refine ⟨B, Z, en, fps, C, ?_⟩
    unfold mOr at o
    cases e : ma en with
    | bad => rw [e] at o; exact o
    | exc c x => rw [e] at o; exact o
    | ok d en' =>
      rw [e] at o
      cases d with
      | bl c =>
        intro v Z' H' fps' fp D h
        refine ⟨c, scv_bl h.own, ?_⟩
        cases c with
        | true =>
          rw [if_pos rfl]
          exact o _ Z' H' fps' [] D (.sc .bl)
        | false =>
          rw [if_neg Bool.false_ne_true]
          exact ⟨B, Z', en', fps', D, o⟩
      | _ => exact o.elim
theorem ei_not {κ1 : Nat} {L1 : List Nat} (ha : EI X G W lk Γ a κ1 L1 Γ' m) : EI X G W lk Γ (.UnaryOp .Not a pos) κ [] Γ' (mNot m) :=
  PE.imp (pe_not ha) fun σ H Q ⟨B, Z, en, fps, C, o⟩ => by
    refine ⟨B, Z, en, fps, C, ?_⟩
    unfold mNot at o
    cases e : m en with
    | bad => rw [e] at o; exact o
    | exc c x => rw [e] at o; exact o
    | ok d en' =>
      rw [e] at o
      cases d with
      | bl c => exact fun v Z' H' fps' fp D h => ⟨c, scv_bl h.own, o _ Z' H' fps' [] D (.sc .bl)⟩
      | _ => exact o.elim
def mIf (mc ma mb : EM) : EM := fun en => match mc en with
  | .ok (.bl true) en1 => ma en1
  | .ok (.bl false) en1 => mb en1
  | .ok _ _ => .bad
  | .exc c x => .exc c x
  | .bad => .bad
theorem ei_if {c : Expr} {mc : EM} (hc : TI X G W lk Γ c Γ mc) (ha : EI X G W lk Γ a κ L Γ' ma) (hb : EI X G W lk Γ b κ L Γ' mb) : EI X G W lk Γ (.IfExp c a b pos) κ L Γ' (mIf mc ma mb) :=
  PE.imp (pe_ifExp hc ha hb) fun σ H Q ⟨B, Z, en, fps, C, o⟩ => by
    refine ⟨B, Z, en, fps, C, ?_⟩
    unfold mIf at o
    cases e : mc en with
    | bad => rw [e] at o; exact o
    | exc c x => rw [e] at o; exact o
    | ok d en' =>
      rw [e] at o
      cases d with
      | bl c =>
        intro Z' H' fps' D
        cases c with
        | true =>
          rw [if_pos rfl]
          exact ⟨B, Z', en', fps', D, o⟩
        | false =>
          rw [if_neg Bool.false_ne_true]
          exact ⟨B, Z', en', fps', D, o⟩
      | _ => exact o.elim
end
end Im
/-! Argument lists, displays, lists made anew, built-in functions by their values. -/
namespace Im
open PySem PySem.Spec PyProof.Rows L2
section
variable (G : GI) (Z : Addr → Prop) (H : Hp)
/-- several values, each of its kind -/
inductive OwnK : List Nat → List V → List D → List (List Addr) → Prop
  | nil : OwnK [] [] [] []
  | cons {k : Nat} {ks : List Nat} {v : V} {d : D} {vs : List V} {ds : List D} {fp : List Addr} {fpl : List (List Addr)} : Own G Z H k v d fp → OwnK ks vs ds fpl → OwnK (k :: ks) (v :: vs) (d :: ds) (fp :: fpl)
end
section
variable {G : GI} {Z Z' : Addr → Prop} {H H' : Hp}
theorem ownK_keep (hI : StayI H H') (hz : ∀ a, Z a → Z' a ∧ ∀ o, H a = some o → H' a = some o) : ∀ {ks : List Nat} {vs : List V} {ds : List D} {fpl : List (List Addr)}, OwnK G Z H ks vs ds fpl → (∀ a ∈ fpl.flatten, ∀ o, H a = some o → H' a = some o) → OwnK G Z' H' ks vs ds fpl
  | _, _, _, _, .nil, _ => .nil
  | _, _, _, _, .cons h t, hf => by
    rw [List.flatten_cons] at hf
    exact .cons (own_keep hI hz h fun a ha => hf a (List.mem_append_left _ ha)) (ownK_keep hI hz t fun a ha => hf a (List.mem_append_right _ ha))
theorem OwnK.monoZ {ks : List Nat} {vs : List V} {ds : List D} {fpl : List (List Addr)} (h : OwnK G Z H ks vs ds fpl) (hz : ∀ a, Z a → Z' a) : OwnK G Z' H ks vs ds fpl := ownK_keep (fun _ _ e _ => e) (fun a z => ⟨hz a z, fun _ e => e⟩) h fun _ _ _ e => e
theorem OwnK.chg : ∀ {ks : List Nat} {vs : List V} {ds : List D} {fpl : List (List Addr)}, OwnK G Z H ks vs ds fpl → ∀ a ∈ fpl.flatten, ∃ o, H a = some o ∧ Chg o
  | _, _, _, _, .nil, a, h => by simp at h
  | _, _, _, _, .cons h t, a, ha => by
    rw [List.flatten_cons] at ha
    rcases List.mem_append.mp ha with q | q
    · exact h.chg a q
    · exact t.chg a q
theorem OwnK.ownL {κ : Nat} : ∀ {ks : List Nat} {vs : List V} {ds : List D} {fpl : List (List Addr)}, OwnK G Z H ks vs ds fpl → (∀ k ∈ ks, k = κ) → OwnL G Z H κ vs ds fpl.flatten
  | _, _, _, _, .nil, _ => .nil
  | _, _, _, _, .cons h t, hk => by
    rw [List.flatten_cons]
    have e := hk _ List.mem_cons_self
    subst e
    exact .cons h (t.ownL fun k m => hk k (List.mem_cons_of_mem _ m))
theorem OwnK.len : ∀ {ks : List Nat} {vs : List V} {ds : List D} {fpl : List (List Addr)}, OwnK G Z H ks vs ds fpl → vs.length = ks.length ∧ ds.length = ks.length
  | _, _, _, _, .nil => ⟨rfl, rfl⟩
  | _, _, _, _, .cons _ t => ⟨congrArg (· + 1) t.len.1, congrArg (· + 1) t.len.2⟩
theorem OwnL.append {κ : Nat} : ∀ {vs ws : List V} {ds es : List D} {fp fq : List Addr}, OwnL G Z H κ vs ds fp → OwnL G Z H κ ws es fq → OwnL G Z H κ (vs ++ ws) (ds ++ es) (fp ++ fq) := by
  intro vs
  induction vs with
  | nil => intro ws ds es fp fq h g; cases h; exact g
  | cons v vs ih =>
    intro ws ds es fp fq h g
    cases h with
    | cons h t => rw [List.append_assoc]; exact .cons h (ih t g)
end
structure HeldK (G : GI) (B : Bs) (L : List Nat) (Z : Addr → Prop) (H : Hp) (fps : Nat → List Addr) (κs : List Nat) (vs : List V) (ds : List D) (fpl : List (List Addr)) : Prop where
  own : OwnK G (Zl Z L fps) H κs vs ds fpl
  nd : fpl.flatten.Nodup
  nz : ∀ a ∈ fpl.flatten, ¬ Z a
  ds : ∀ a ∈ fpl.flatten, ∀ i, a ∉ fps i
  nw : ∀ a ∈ fpl.flatten, B.F a ∨ B.H a = none
section
variable {G : GI} {B : Bs} {W : WX} {lk lk' L L' L1 L2 : List Nat} {Z Z' : Addr → Prop} {σ σ' : St} {H H' : Hp} {Γ Γ' Γ1 Γ2 : List Nat} {en en' : En} {fps fps' : Nat → List Addr} {κ κ' : Nat} {κs : List Nat} {v : V} {d : D}
theorem HeldK.comp {vs : List V} {ds : List D} {fpl : List (List Addr)} (C : Cfg G B lk Z σ H Γ en fps) (hl : ∀ i ∈ lk, i ∈ lk') (h : HeldK G (rb H Z lk' fps B.pins) L Z' H' fps' κs vs ds fpl) : HeldK G B L Z' H' fps' κs vs ds fpl :=
  ⟨h.own, h.nd, h.nz, h.ds, fun a ha => by
    rcases h.nw a ha with ⟨j, hj, z⟩ | z
    · rcases C.newf j a z with y | y | y
      · exact .inl y
      · exact absurd (hl j (C.bok.lki j a y)) hj
      · exact .inr y
    · exact C.none_of z⟩
theorem HeldK.heldL {vs : List V} {ds : List D} {fpl : List (List Addr)} (h : HeldK G B L Z H fps κs vs ds fpl) (hk : ∀ k ∈ κs, k = κ) : HeldL G B L Z H fps κ vs ds fpl.flatten := ⟨h.own.ownL hk, h.nd, h.nz, h.ds, h.nw⟩
def OutA (G : GI) (B : Bs) (W : WX) (lk : List Nat) (κs : List Nat) (L : List Nat) (Γ' : List Nat) (σ : St) (Q : List V → Hp → Prop) : ResL → Prop
  | .ok ds en' => ∀ vs Z' H' fps' fpl, Cfg G B lk Z' σ H' Γ' en' fps' → HeldK G B L Z' H' fps' κs vs ds fpl → Q vs H'
  | .exc c x => ∀ C dd H', XOk G B H' c x C dd → W (.ref C) (some dd) σ H'
  | .bad => False
def tA (G : GI) (W : WX) (lk Γ κs L Γ' : List Nat) (m : AM) : TA := fun σ H Q =>
  ∃ B Z en fps, Cfg G B lk Z σ H Γ en fps ∧ OutA G B W lk κs L Γ' σ Q (m en)
def AI (X : Cx) (G : GI) (W : WX) (lk Γ : List Nat) (es : List Expr) (κs L Γ' : List Nat) (m : AM) : Prop := PA X es (tA G W lk Γ κs L Γ' m)
def mNil : AM := fun en => .ok [] en
def mCons (m : EM) (ms : AM) : AM := fun en => match m en with
  | .ok d en1 => match ms en1 with
    | .ok ds en2 => .ok (d :: ds) en2
    | .exc c x => .exc c x
    | .bad => .bad
  | .exc c x => .exc c x
  | .bad => .bad
variable {X : Cx} {pos : Pos} {m ma mb : EM} {ms : AM} {e a b : Expr} {es : List Expr}
theorem ai_nil : AI X G W lk Γ [] [] [] Γ mNil := PA.imp pa_nil fun σ H Q ⟨B, Z, en, fps, C, o⟩ => o [] Z H fps [] C ⟨.nil, List.nodup_nil, (fun _ h => nomatch h), (fun _ h => nomatch h), (fun _ h => nomatch h)⟩
theorem ai_cons (ha : EI X G W lk Γ e κ L1 Γ1 m) (hr : AI X G W (L1 ++ lk) Γ1 es κs L2 Γ2 ms) (hs : starEach (e :: es) X.env = (false, eval e X.env) :: starEach es X.env := by rfl) :
    AI X G W lk Γ (e :: es) (κ :: κs) (L1 ++ L2) Γ2 (mCons m ms) := PA.imp (pa_cons ha hr hs) fun σ H Q ⟨B, Z, en, fps, C, o⟩ => by
  refine ⟨B, Z, en, fps, C, ?_⟩
  unfold mCons at o
  cases ea : m en with
  | bad => rw [ea] at o; exact o.elim
  | exc c x => rw [ea] at o; exact o
  | ok d1 en1 =>
    rw [ea] at o
    dsimp only at o
    intro v1 Z1 H1 fps1 fp1 C1 h1
    refine ⟨rb H1 Z1 (L1 ++ lk) fps1 B.pins, Z1, en1, fps1, C1.rebase _, ?_⟩
    have hl : ∀ i ∈ lk, i ∈ L1 ++ lk := fun i h => List.mem_append_right _ h
    have hL : ∀ i ∈ L1, i ∈ L1 ++ lk := fun i h => List.mem_append_left _ h
    cases eb : ms en1 with
    | bad => rw [eb] at o; exact o.elim
    | exc c x => rw [eb] at o; exact fun Cc dd H' x => o _ _ _ (x.comp C1 hl)
    | ok ds en2 =>
      rw [eb] at o
      intro vs Z2 H2 fps2 fpl C2 h2
      have k1 := h1.stay C1 hl hL C2
      have k2 := HeldK.comp C1 hl h2
      have ap := held_apart C1 h1.own.chg h1.ds h2.nw
      refine o (v1 :: vs) Z2 H2 fps2 (fp1 :: fpl) (C1.comp hl C2) ⟨.cons (k1.own.monoZ fun a z => ?_) (k2.own.monoZ fun a z => ?_), ?_, fun a h => ?_, fun a h => ?_, fun a h => ?_⟩
      · exact z.elim .inl fun ⟨i, m, q⟩ => .inr ⟨i, List.mem_append_left _ m, q⟩
      · exact z.elim .inl fun ⟨i, m, q⟩ => .inr ⟨i, List.mem_append_right _ m, q⟩
      · rw [List.flatten_cons, List.nodup_append]
        exact ⟨k1.nd, k2.nd, fun x hx y hy e => ap x hx (e ▸ hy)⟩
      all_goals (rw [List.flatten_cons] at h; rcases List.mem_append.mp h with h | h)
      · exact k1.nz a h
      · exact k2.nz a h
      · exact k1.ds a h
      · exact k2.ds a h
      · exact k1.nw a h
      · exact k2.nw a h
/-! ### displays -/
def mLst (ms : AM) : EM := fun en => match ms en with
  | .ok ds en' => .ok (.lst ds) en'
  | .exc c x => .exc c x
  | .bad => .bad
def mTup (ms : AM) : EM := fun en => match ms en with
  | .ok ds en' => .ok (.tup ds) en'
  | .exc c x => .exc c x
  | .bad => .bad
theorem ei_lst (h : AI X G W lk Γ es κs L Γ' ms) (hk : ∀ k ∈ κs, k = κ := by decide) (hz : κs.length ≤ 1000 := by decide) : EI X G W lk Γ (.List es pos) (κ + 1) L Γ' (mLst ms) := PE.imp (pe_lst h) fun σ H Q ⟨B, Z, en, fps, C, o⟩ => by
  refine ⟨B, Z, en, fps, C, ?_⟩
  unfold mLst at o
  cases e : ms en with
  | bad => rw [e] at o; exact o
  | exc c x => rw [e] at o; exact o
  | ok ds en' =>
    rw [e] at o
    intro vs Z' H' fps' fpl C' h'
    exact ⟨by rw [h'.own.len.1]; exact Nat.le_trans hz (by decide), fun p hp => o _ _ _ _ _ (C'.grow hp) ((h'.heldL hk).lst C' hp)⟩
theorem ei_tup {n : Nat} (h : AI X G W lk Γ es κs L Γ' ms) (hk : ∀ k ∈ κs, k = κ := by decide) (hz : κs.length ≤ 1000 := by decide) : EI X G W lk Γ (.Tuple es n pos) κ L Γ' (mTup ms) := PE.imp (pe_tup h) fun σ H Q ⟨B, Z, en, fps, C, o⟩ => by
  refine ⟨B, Z, en, fps, C, ?_⟩
  unfold mTup at o
  cases e : ms en with
  | bad => rw [e] at o; exact o
  | exc c x => rw [e] at o; exact o
  | ok ds en' =>
    rw [e] at o
    intro vs Z' H' fps' fpl C' h'
    exact ⟨by rw [h'.own.len.1]; exact Nat.le_trans hz (by decide), fun p hp => o _ _ _ _ _ (C'.grow hp) ((h'.heldL hk).tup C' hp)⟩
/-! ### given up below a depth; a scalar -/
theorem Cfg.addZ (C : Cfg G B lk Z σ H Γ en fps) {S : Addr → Prop} (h1 : ∀ a, S a → ∃ o, H a = some o) (h2 : ∀ a, S a → ∀ i, a ∉ fps i) (h3 : ∀ a, S a → B.F a ∨ B.H a = none) : Cfg G B lk (fun a => Z a ∨ S a) σ H Γ en fps where
  bok := C.bok
  len := C.len
  rep := fun i d e => by
    obtain ⟨v, a, b⟩ := C.rep i d e
    exact ⟨v, a, b.monoZ fun _ z => .inl z⟩
  emp := C.emp
  nd := C.nd
  dis := C.dis
  nz := fun i a h z => z.elim (C.nz i a h) fun s => h2 a s i h
  zt := fun a z => z.elim (C.zt a) (h1 a)
  keep := C.keep
  newf := C.newf
  lkd := C.lkd
  lks := fun i a h => (C.lks i a h).elim (fun z => .inl (.inl z)) .inr
  zb := fun a z => .inl (C.zb a z)
  zn := fun a z => z.elim (C.zn a) fun s => (h3 a s).elim (fun q => .inr (.inl q)) fun q => .inr (.inr (.inr q))
  pin := C.pin
theorem Held.lower {fp : List Addr} (C : Cfg G B lk Z σ H Γ en fps) (h : Held G B L Z H fps κ v d fp) (hj : κ' ≤ κ) : ∃ Z' fp', Cfg G B lk Z' σ H Γ en fps ∧ Held G B L Z' H fps κ' v d fp' := by
  obtain ⟨fp', sub, o⟩ := h.own.lower hj h.nd
  refine ⟨fun a => Z a ∨ (a ∈ fp ∧ a ∉ fp'), fp', C.addZ (fun a s => ?_) (fun a s => h.ds a s.1) (fun a s => h.nw a s.1), ⟨o.monoZ fun a z => ?_, h.nd.sublist sub, fun a m z => ?_, fun a m => h.ds a (sub.subset m), fun a m => h.nw a (sub.subset m)⟩⟩
  · obtain ⟨o, e, _⟩ := h.own.chg a s.1
    exact ⟨o, e⟩
  · rcases z with (z | z) | z
    · exact .inl (.inl z)
    · exact .inr z
    · exact .inl (.inr z)
  · rcases z with z | z
    · exact h.nz a (sub.subset m) z
    · exact z.2 m
theorem ei_low (h : EI X G W lk Γ e κ L Γ' m) (hj : κ' ≤ κ := by decide) : EI X G W lk Γ e κ' L Γ' m := PE.imp h fun σ H Q ⟨B, Z, en, fps, C, o⟩ => by
  refine ⟨B, Z, en, fps, C, ?_⟩
  cases e : m en with
  | bad => rw [e] at o; exact o
  | exc c x => rw [e] at o; exact o
  | ok d en' =>
    rw [e] at o
    intro v Z' H' fps' fp C' h'
    obtain ⟨Z2, fp2, C2, h2⟩ := h'.lower C' hj
    exact o v Z2 H' fps' fp2 C2 h2
def mSc (m : EM) : EM := fun en => match m en with
  | .ok d en' => if scD d then .ok d en' else .bad
  | r => r
/-- a scalar: nothing is lent any more -/
theorem ei_sc (h : EI X G W lk Γ e κ L Γ' m) : EI X G W lk Γ e κ' [] Γ' (mSc m) := PE.imp h fun σ H Q ⟨B, Z, en, fps, C, o⟩ => by
  refine ⟨B, Z, en, fps, C, ?_⟩
  unfold mSc at o
  cases e : m en with
  | bad => rw [e] at o; exact o
  | exc c x => rw [e] at o; exact o
  | ok d en' =>
    rw [e] at o
    dsimp only at o
    intro v Z' H' fps' fp C' h'
    split at o
    · rename_i s
      exact o v Z' H' fps' [] C' (.sc (scD_scv h'.own s).1)
    · exact o.elim
/-- lent no longer: given up -/
theorem oi_v (h : EI X G W lk Γ e 0 [] Γ' m) : OI X G W lk Γ e (.v []) Γ' m := PE.imp h fun σ H Q ⟨B, Z, en, fps, C, o⟩ => by
  refine ⟨B, Z, en, fps, C, ?_⟩
  cases e : m en with
  | bad => rw [e] at o; exact o
  | exc c x => rw [e] at o; exact o
  | ok d en' =>
    rw [e] at o
    intro v Z' H' fps' fp C' h'
    have q := h'.own
    have z := q.z0
    rw [z] at q
    exact o v Z' H' fps' C' (.inl (q.monoZ fun a z => Zl_nil.mp z))
theorem Vw.lst {ds : List D} (h : Vw G L Z H fps v (.lst ds)) : ∃ a vs, v = .ref a ∧ H a = some (.lst vs) ∧ OwnL G Z H 0 vs ds [] := by
  rcases h with h | ⟨a, vs, ds', e1, e2, e3, h, _⟩
  · cases h with
    | lst z e h => exact ⟨_, _, rfl, e, h⟩
  · cases e2
    exact ⟨a, vs, e1, e3, h⟩
/-- a list made anew of things that stand still -/
theorem fresh_lst {vs : List V} {ds : List D} {p : Addr} (C : Cfg G B lk Z σ H Γ en fps) (h : OwnL G Z H 0 vs ds []) (hp : H p = none) : Held G B [] Z (upd H p (.lst vs)) fps 1 (.ref p) (.lst ds) [p] :=
  HeldL.lst (κ := 0) (fp := []) C ⟨h.monoZ fun a z => Zl_nil.mpr z, List.nodup_nil, (fun _ h => nomatch h), (fun _ h => nomatch h), (fun _ h => nomatch h)⟩ hp
theorem fresh_tup {vs : List V} {ds : List D} {p : Addr} (C : Cfg G B lk Z σ H Γ en fps) (h : OwnL G Z H 0 vs ds []) (hp : H p = none) : Held G B [] Z (upd H p (.tup vs)) fps 0 (.ref p) (.tup ds) [] :=
  HeldL.tup (κ := 0) (fp := []) C ⟨h.monoZ fun a z => Zl_nil.mpr z, List.nodup_nil, (fun _ h => nomatch h), (fun _ h => nomatch h), (fun _ h => nomatch h)⟩ hp
/-- the largest length that we let a list grow to -/
abbrev lim : Nat := 1000000
def dCat : D → D → Option D
  | .lst xs, .lst ys => if xs.length + ys.length ≤ lim then some (.lst (xs ++ ys)) else none
  | _, _ => none
theorem lim_ok {n : Nat} (h : n ≤ lim) : n ≤ sizeLine := Nat.le_trans h (by decide)
theorem mB_cases {f : D → D → Option D} {md1 md2 : Md} {R : V → V → Hp → Prop} {Q : VK} {κ : Nat} {L : List Nat} (o : OutE G B W lk κ L Γ2 σ Q (mB f ma mb en))
    (h : ∀ d1 d2 d v1 v2 Z2 H2 fps2 en2, f d1 d2 = some d → Cfg G B lk Z2 σ H2 Γ2 en2 fps2 → md1.P G B Z2 H2 fps2 v1 d1 → md2.P G B Z2 H2 fps2 v2 d2 →
      (∀ v Z' H' fps' fp, Cfg G B lk Z' σ H' Γ2 en2 fps' → Held G B L Z' H' fps' κ v d fp → Q v H') → R v1 v2 H2) : Out2 G B W lk md1 md2 Γ2 σ R (mm2 ma mb en) := by
  unfold mB at o
  cases e : mm2 ma mb en with
  | bad => rw [e] at o; exact o.elim
  | exc c x => rw [e] at o; exact o
  | ok d1 d2 en2 =>
    rw [e] at o
    dsimp only at o
    intro v1 v2 Z2 H2 fps2 C2 h1 h2
    cases ef : f d1 d2 with
    | none => rw [ef] at o; exact o.elim
    | some d =>
      rw [ef] at o
      exact h d1 d2 d v1 v2 Z2 H2 fps2 en2 ef C2 h1 h2 o
theorem ei_cat (ha : OI X G W lk Γ a (.v L1) Γ1 ma) (hb : OI X G W (L1 ++ lk) Γ1 b (.v L2) Γ2 mb) : EI X G W lk Γ (.BinOp a .Add b pos) 1 [] Γ2 (mB dCat ma mb) :=
  PE.imp (pe_op op_cat ha hb) fun σ H Q ⟨B, Z, en, fps, C, o⟩ => run2 (mda := .v L1) (mdb := .v L2) C (mB_cases o fun d1 d2 d v1 v2 Z2 H2 fps2 en2 ef C2 h1 h2 o => by
    unfold dCat at ef
    split at ef
    · rename_i xs ys
      split at ef
      · rename_i hz
        cases ef
        obtain ⟨p, vs, rfl, e1, o1⟩ := Vw.lst h1
        obtain ⟨q, ws, rfl, e2, o2⟩ := Vw.lst h2
        refine ⟨p, q, vs, ws, rfl, rfl, e1, e2, by rw [o1.len, o2.len]; exact lim_ok hz, fun r hr => ?_⟩
        exact o _ _ _ _ _ (C2.grow hr) (fresh_lst C2 (o1.append o2) hr)
      · cases ef
    · cases ef)
theorem ownL_rep {vs : List V} {ds : List D} (h : OwnL G Z H 0 vs ds []) : ∀ n : Nat, OwnL G Z H 0 (List.replicate n vs).flatten (List.replicate n ds).flatten []
  | 0 => .nil
  | n + 1 => by
    have q := h.append (ownL_rep h n)
    simpa [List.replicate_succ] using q
def dRep : D → D → Option D
  | .lst xs, .int n => if -1000000 ≤ n ∧ n ≤ 1000000 ∧ xs.length * n.toNat ≤ lim then some (.lst (List.replicate n.toNat xs).flatten) else none
  | _, _ => none
theorem own_int {k : Nat} {n : Int} {fp : List Addr} (h : Own G Z H k v (.int n) fp) : v = .int n := by cases h; rfl
theorem own_str {k : Nat} {x : Str} {fp : List Addr} (h : Own G Z H k v (.str x) fp) : v = .str x := by cases h; rfl
theorem ei_rep {md : Md} (ha : OI X G W lk Γ a (.v L1) Γ1 ma) (hb : OI X G W (L1 ++ lk) Γ1 b md Γ2 mb) : EI X G W lk Γ (.BinOp a .Mult b pos) 1 [] Γ2 (mB dRep ma mb) :=
  PE.imp (pe_op op_rep ha hb) fun σ H Q ⟨B, Z, en, fps, C, o⟩ => run2 (mda := .v L1) (mdb := md) C (mB_cases o fun d1 d2 d v1 v2 Z2 H2 fps2 en2 ef C2 h1 h2 o => by
    unfold dRep at ef
    split at ef
    · rename_i xs n
      split at ef
      · rename_i hz
        cases ef
        obtain ⟨p, vs, rfl, e1, o1⟩ := Vw.lst h1
        obtain ⟨_, _, _, o2⟩ := Md.any h2
        have e2 := own_int o2
        subst e2
        refine ⟨p, n, vs, rfl, rfl, e1, by omega, by omega, by rw [o1.len]; exact lim_ok hz.2.2, fun r hr => ?_⟩
        exact o _ _ _ _ _ (C2.grow hr) (fresh_lst C2 (ownL_rep o1 _) hr)
      · cases ef
    · cases ef)
/-! ### built-in functions of one and two arguments, a scalar back -/
def Lk1 (G : GI) (r : List V → Hp → VK → Prop) (f : D → Option D) : Prop := ∀ (H : Hp) (v : V) (d d' : D) (Q : VK), (∃ Zx k fp, Own G Zx H k v d fp) → f d = some d' → (∀ v', ScV v' d' → Q v' H) → r [v] H Q
def m1 (f : D → Option D) (m : EM) : EM := fun en => match m en with
  | .ok d en' => match f d with
    | some d' => .ok d' en'
    | none => .bad
  | .exc c x => .exc c x
  | .bad => .bad
theorem out1 {md : Md} {r : V → Hp → Prop} {Q : VK} {f : D → Option D} {L' : List Nat} (o : OutE G B W lk κ L' Γ' σ Q (m1 f m en))
    (h : ∀ d d' v Z2 H2 fps2 en2, f d = some d' → Cfg G B lk Z2 σ H2 Γ' en2 fps2 → md.P G B Z2 H2 fps2 v d → (∀ v Z' H' fps' fp, Cfg G B lk Z' σ H' Γ' en2 fps' → Held G B L' Z' H' fps' κ v d' fp → Q v H') → r v H2) :
    OutO G B W lk md Γ' σ r (m en) := by
  unfold m1 at o
  cases e : m en with
  | bad => rw [e] at o; exact o.elim
  | exc c x => rw [e] at o; exact o
  | ok d en2 =>
    rw [e] at o
    dsimp only at o
    intro v Z2 H2 fps2 C2 h2
    cases ef : f d with
    | none => rw [ef] at o; exact o.elim
    | some d' =>
      rw [ef] at o
      exact h d d' v Z2 H2 fps2 en2 ef C2 h2 o
variable {x : Str} {p : Pos} {id T : String} {r : List V → Hp → VK → Prop}
theorem ei_b1 {f : D → Option D} {md : Md} (hc : CallR X (.builtin id) r) (lnk : Lk1 G r f) (hg : Gl X x) (hm : X.mg x = none) (hv : bootBuiltins x = some (.builtin id)) (ha : OI X G W lk Γ a md Γ' m) (hn : x ≠ "__name__" := by decide) (hdb : (x == ("__debug__" : Str)) = false := by decide)
    (he : starEach (a :: []) X.env = (false, eval a X.env) :: starEach [] X.env := by rfl) : EI X G W lk Γ (.Call (.Name x p) [a] [] pos) κ [] Γ' (m1 f m) :=
  PE.imp (pe_callB hc hg hm hv (pa_cons ha pa_nil he) hn hdb he rfl) fun σ H Q ⟨B, Z, en, fps, C, o⟩ => ⟨B, Z, en, fps, C, out1 (md := md) (r := fun v H2 => r [v] H2 Q) o fun d d' v Z2 H2 fps2 en2 ef C2 h2 o => lnk H2 v d d' Q (Md.any h2) ef fun v' s => o v' Z2 H2 fps2 [] C2 (.sc s)⟩
theorem ei_t1 {f : D → Option D} {md : Md} (hc : CallR X (.type T) r) (lnk : Lk1 G r f) (hg : Gl X x) (hm : X.mg x = none) (hv : bootBuiltins x = some (.type T)) (ha : OI X G W lk Γ a md Γ' m) (hn : x ≠ "__name__" := by decide) (hdb : (x == ("__debug__" : Str)) = false := by decide)
    (he : starEach (a :: []) X.env = (false, eval a X.env) :: starEach [] X.env := by rfl) : EI X G W lk Γ (.Call (.Name x p) [a] [] pos) κ [] Γ' (m1 f m) :=
  PE.imp (pe_callTy hc hg hm hv (pa_cons ha pa_nil he) hn hdb he rfl) fun σ H Q ⟨B, Z, en, fps, C, o⟩ => ⟨B, Z, en, fps, C, out1 (md := md) (r := fun v H2 => r [v] H2 Q) o fun d d' v Z2 H2 fps2 en2 ef C2 h2 o => lnk H2 v d d' Q (Md.any h2) ef fun v' s => o v' Z2 H2 fps2 [] C2 (.sc s)⟩
def LkB2 (G : GI) (r : List V → Hp → VK → Prop) (f : D → D → Option D) : Prop := ∀ (H : Hp) (v1 v2 : V) (d1 d2 d : D) (Q : VK), (∃ Zx k fp, Own G Zx H k v1 d1 fp) → (∃ Zx k fp, Own G Zx H k v2 d2 fp) → f d1 d2 = some d → (∀ v, ScV v d → Q v H) → r [v1, v2] H Q
theorem ei_b2 {f : D → D → Option D} {md1 md2 : Md} (hc : CallR X (.builtin id) r) (lnk : LkB2 G r f) (hg : Gl X x) (hm : X.mg x = none) (hv : bootBuiltins x = some (.builtin id)) (ha : OI X G W lk Γ a md1 Γ1 ma) (hb : OI X G W (md1.L ++ lk) Γ1 b md2 Γ2 mb) (hn : x ≠ "__name__" := by decide) (hdb : (x == ("__debug__" : Str)) = false := by decide)
    (he : starEach (a :: [b]) X.env = (false, eval a X.env) :: starEach [b] X.env := by rfl) (he2 : starEach [b] X.env = (false, eval b X.env) :: starEach [] X.env := by rfl) (hpl : (backTo pos (starEach [b] X.env)).any (·.1) = false := by rfl) :
    EI X G W lk Γ (.Call (.Name x p) [a, b] [] pos) κ [] Γ2 (mB f ma mb) :=
  PE.imp (pe_callB hc hg hm hv (pa_cons ha (pa_cons hb pa_nil he2) he) hn hdb he hpl) fun σ H Q ⟨B, Z, en, fps, C, o⟩ => run2 (R := fun v1 v2 H2 => r [v1, v2] H2 Q) C (mB_cases o fun d1 d2 d v1 v2 Z2 H2 fps2 en2 ef C2 h1 h2 o =>
    lnk H2 v1 v2 d1 d2 d Q (Md.any h1) (Md.any h2) ef fun v' s => o v' Z2 H2 fps2 [] C2 (.sc s))
end
end Im
/-! Subscripts and slices, read. -/
namespace Im
open PySem PySem.Spec PyProof.Rows L2
/-- the names' meanings and the data's go together -/
structure Lnk (X : Cx) (G : GI) : Prop where
  K : G.K = X.K
  fn : ∀ x f, G.fn x = some f → X.mg x = some (.ref f)
  cls : ∀ x f, G.cls x = some f → X.mg x = some (.ref f)
section
variable {G : GI} {B : Bs} {W : WX} {lk lk' L L' L1 L2 : List Nat} {Z Z' : Addr → Prop} {σ σ' : St} {H H' : Hp} {Γ Γ' Γ1 Γ2 Γ3 : List Nat} {en en' : En} {fps fps' : Nat → List Addr} {κ κ' : Nat} {κs : List Nat} {v : V} {d : D}
variable {X : Cx} {pos : Pos} {m ma mb : EM} {e a b : Expr}
theorem atI_of {α β : Type} {xs : List α} {ys : List β} {i : Int} {d : α} (hl : ys.length = xs.length) (h : atI xs i = some d) : ∃ j : Nat, xs[j]? = some d ∧ ∀ v, ys[j]? = some v → atI ys i = some v := by
  unfold atI at h
  cases e : ixN xs.length i with
  | none => rw [e] at h; cases h
  | some j =>
    rw [e] at h
    refine ⟨j, h, fun v hv => ?_⟩
    unfold atI
    rw [hl, e]
    exact hv
theorem OwnL.atI {vs : List V} {ds : List D} {fp : List Addr} {i : Int} {d : D} (h : OwnL G Z H κ vs ds fp) (e : atI ds i = some d) : ∃ v fp', atI vs i = some v ∧ Own G Z H κ v d fp' ∧ fp'.Sublist fp := by
  obtain ⟨j, h1, h2⟩ := atI_of (ys := vs) h.len e
  obtain ⟨v, fp', a, b, c⟩ := h.get h1
  exact ⟨v, fp', h2 v a, b, c⟩
theorem atI_map {α β : Type} (f : α → β) (xs : List α) (i : Int) : atI (xs.map f) i = (atI xs i).map f := by
  unfold atI
  rw [List.length_map]
  cases ixN xs.length i with
  | none => rfl
  | some j => simp
def dIx : D → D → Option D
  | .lst xs, .int i => atI xs i
  | .tup xs, .int i => atI xs i
  | .scr ns, .int i => (atI ns i).map .int
  | .str z, .int i => if z.length ≤ lim then (atI z.cps.toList i).map fun c => .str ⟨#[c]⟩ else none
  | _, _ => none
theorem own_lst0 {Zx : Addr → Prop} {ds : List D} {fp : List Addr} (h : Own G Zx H 0 v (.lst ds) fp) : ∃ a vs, v = .ref a ∧ H a = some (.lst vs) ∧ OwnL G Zx H 0 vs ds [] := by
  cases h with
  | lst z e h => exact ⟨_, _, rfl, e, h⟩
theorem own_lstS {Zx : Addr → Prop} {ds : List D} {fp : List Addr} (h : Own G Zx H (κ + 1) v (.lst ds) fp) : ∃ a vs fp', v = .ref a ∧ H a = some (.lst vs) ∧ OwnL G Zx H κ vs ds fp' ∧ fp = a :: fp' := by
  cases h with
  | own e h => exact ⟨_, _, _, rfl, e, h, rfl⟩
theorem own_tup {Zx : Addr → Prop} {ds : List D} {fp : List Addr} (h : Own G Zx H κ v (.tup ds) fp) : ∃ a vs, v = .ref a ∧ H a = some (.tup vs) ∧ OwnL G Zx H κ vs ds fp := by
  cases h with
  | tup e h => exact ⟨_, _, rfl, e, h⟩
theorem own_scr {Zx : Addr → Prop} {ns : List Int} {fp : List Addr} (h : Own G Zx H κ v (.scr ns) fp) : ∃ a, v = .ref a ∧ ScrAt G.K H a ns := by
  cases h with
  | scr e => exact ⟨_, rfl, e⟩
/-- an item of what stands still (or is lent) -/
theorem ix_item {Q : VK} {d1 d2 : D} {v1 v2 : V} {Zx : Addr → Prop} {k : Nat} {fp2 : List Addr} (hK : G.K = X.K) (ef : dIx d1 d2 = some d) (h1 : Own G Zx H 0 v1 d1 []) (h2 : Own G Z' H k v2 d2 fp2) (q : ∀ v, Own G Zx H 0 v d [] → Q v H) : rIx X.K v1 v2 H Q := by
  unfold dIx at ef
  split at ef
  · rename_i xs i
    have e2 := own_int h2
    obtain ⟨a, vs, e1, e3, o⟩ := own_lst0 h1
    obtain ⟨w, fp', e4, o4, s⟩ := o.atI ef
    obtain rfl : fp' = [] := List.sublist_nil.mp s
    exact .inl ⟨a, vs, i, w, e1, e2, .of e3, e4, q w o4⟩
  · rename_i xs i
    have e2 := own_int h2
    obtain ⟨a, vs, e1, e3, o⟩ := own_tup h1
    obtain ⟨w, fp', e4, o4, s⟩ := o.atI ef
    obtain rfl : fp' = [] := List.sublist_nil.mp s
    exact .inr (.inl ⟨a, vs, i, w, e1, e2, .of e3, e4, q w o4⟩)
  · rename_i ns i
    have e2 := own_int h2
    obtain ⟨a, e1, s⟩ := own_scr h1
    cases en : atI ns i with
    | none => rw [en] at ef; cases ef
    | some n =>
      rw [en] at ef
      cases ef
      exact .inl ⟨a, _, i, .int n, e1, e2, hK ▸ s.sq, by rw [atI_map, en]; rfl, q _ .int⟩
  · rename_i z i
    have e2 := own_int h2
    have e1 := own_str h1
    split at ef
    · rename_i hz
      cases en : atI z.cps.toList i with
      | none => rw [en] at ef; cases ef
      | some c =>
        rw [en] at ef
        cases ef
        exact .inr (.inr ⟨z, i, c, e1, e2, lim_ok hz, en, q _ .str⟩)
    · cases ef
  · cases ef
theorem ei_ix {md : Md} (hK : G.K = X.K) (ha : OI X G W lk Γ a (.e 0 L) Γ1 ma) (hb : OI X G W (L ++ lk) Γ1 b md Γ2 mb) (hs : PlainIx b) : EI X G W lk Γ (.Subscript a b pos) 0 L Γ2 (mB dIx ma mb) :=
  PE.imp (pe_ix ix_seq ha hb hs) fun σ H Q ⟨B, Z, en, fps, C, o⟩ => run2 (mda := .e 0 L) (mdb := md) C (mB_cases o fun d1 d2 d v1 v2 Z2 H2 fps2 en2 ef C2 ⟨fp, h1⟩ h2 o => by
    obtain ⟨_, _, _, o2⟩ := Md.any h2
    have q := h1.own
    have z := q.z0
    rw [z] at q
    exact ix_item hK ef q o2 fun v o1 => o v _ _ _ [] C2 (held_frz o1))
/-- an item of a list that is seen, or of a temporary -/
theorem ei_ixv {md : Md} (hK : G.K = X.K) (ha : OI X G W lk Γ a (.v L) Γ1 ma) (hb : OI X G W (L ++ lk) Γ1 b md Γ2 mb) (hs : PlainIx b) : EI X G W lk Γ (.Subscript a b pos) 0 [] Γ2 (mB dIx ma mb) :=
  PE.imp (pe_ix ix_seq ha hb hs) fun σ H Q ⟨B, Z, en, fps, C, o⟩ => run2 (mda := .v L) (mdb := md) C (mB_cases o fun d1 d2 d v1 v2 Z2 H2 fps2 en2 ef C2 h1 h2 o => by
    obtain ⟨_, _, _, o2⟩ := Md.any h2
    rcases h1 with h1 | ⟨a, vs, ds, e1, e2, e3, h1, _⟩
    · exact ix_item hK ef h1 o2 fun v o1 => o v _ _ _ [] C2 (held_frz (o1.monoZ fun a z => Zl_nil.mpr z))
    · subst e1 e2
      unfold dIx at ef
      split at ef
      · rename_i xs i q
        cases q
        have e2 := own_int o2
        obtain ⟨w, fp', e4, o4, s⟩ := h1.atI ef
        obtain rfl : fp' = [] := List.sublist_nil.mp s
        exact .inl ⟨a, vs, i, w, rfl, e2, .of e3, e4, o w _ _ _ [] C2 (held_frz (o4.monoZ fun a z => Zl_nil.mpr z))⟩
      all_goals (first | (rename_i q; cases q; done) | (rename_i q _; cases q; done) | cases ef))
/-- an item moved out of a temporary tuple -/
def dIxT : D → D → Option D
  | .tup xs, .int i => atI xs i
  | _, _ => none
theorem ei_ixT {md : Md} (ha : OI X G W lk Γ a (.e κ L) Γ1 ma) (hb : OI X G W (L ++ lk) Γ1 b md Γ2 mb) (hs : PlainIx b) : EI X G W lk Γ (.Subscript a b pos) κ L Γ2 (mB dIxT ma mb) :=
  PE.imp (pe_ix ix_seq ha hb hs) fun σ H Q ⟨B, Z, en, fps, C, o⟩ => run2 (mda := .e κ L) (mdb := md) C (mB_cases o fun d1 d2 d v1 v2 Z2 H2 fps2 en2 ef C2 ⟨fp, h1⟩ h2 o => by
    obtain ⟨_, _, _, o2⟩ := Md.any h2
    unfold dIxT at ef
    split at ef
    · rename_i xs i _
      have e2 := own_int o2
      obtain ⟨a, vs, e1, e3, q⟩ := own_tup h1.own
      obtain ⟨w, fp', e4, o4, s⟩ := q.atI ef
      exact .inr (.inl ⟨a, vs, i, w, e1, e2, .of e3, e4, o w _ _ _ fp' C2 ⟨o4, h1.nd.sublist s, fun a m => h1.nz a (s.subset m), fun a m => h1.ds a (s.subset m), fun a m => h1.nw a (s.subset m)⟩⟩)
    · cases ef)
/-- an item moved out of a temporary list -/
def dIxL : D → D → Option D
  | .lst xs, .int i => atI xs i
  | _, _ => none
theorem ei_ixL {md : Md} (ha : OI X G W lk Γ a (.e (κ + 1) L) Γ1 ma) (hb : OI X G W (L ++ lk) Γ1 b md Γ2 mb) (hs : PlainIx b) : EI X G W lk Γ (.Subscript a b pos) κ L Γ2 (mB dIxL ma mb) :=
  PE.imp (pe_ix ix_seq ha hb hs) fun σ H Q ⟨B, Z, en, fps, C, o⟩ => run2 (mda := .e (κ + 1) L) (mdb := md) C (mB_cases o fun d1 d2 d v1 v2 Z2 H2 fps2 en2 ef C2 ⟨fp, h1⟩ h2 o => by
    obtain ⟨_, _, _, o2⟩ := Md.any h2
    unfold dIxL at ef
    split at ef
    · rename_i xs i _
      have e2 := own_int o2
      obtain ⟨a, vs, fq, e1, e3, q, e5⟩ := own_lstS h1.own
      obtain ⟨w, fp', e4, o4, s⟩ := q.atI ef
      have s' : fp'.Sublist fp := by rw [e5]; exact s.cons _
      exact .inl ⟨a, vs, i, w, e1, e2, .of e3, e4, o w _ _ _ fp' C2 ⟨o4, h1.nd.sublist s', fun a m => h1.nz a (s'.subset m), fun a m => h1.ds a (s'.subset m), fun a m => h1.nw a (s'.subset m)⟩⟩
    · cases ef)
/-! ### slices -/
inductive ResP where
  | ok (o : Option Int) (en : En) | exc (c : Str) (x : D) | bad
def OutP (G : GI) (B : Bs) (W : WX) (lk Γ' : List Nat) (σ : St) (Q : Option Int → Hp → Prop) : ResP → Prop
  | .ok c en' => ∀ Z' H' fps', Cfg G B lk Z' σ H' Γ' en' fps' → Q c H'
  | .exc c x => ∀ C dd H', XOk G B H' c x C dd → W (.ref C) (some dd) σ H'
  | .bad => False
def tP (G : GI) (W : WX) (lk Γ Γ' : List Nat) (m : En → ResP) : TO := fun σ H Q =>
  ∃ B Z en fps, Cfg G B lk Z σ H Γ en fps ∧ OutP G B W lk Γ' σ Q (m en)
def PI_ (X : Cx) (G : GI) (W : WX) (lk Γ : List Nat) (e : Option Expr) (Γ' : List Nat) (m : En → ResP) : Prop := PO X e (tP G W lk Γ Γ' m)
def mpN : En → ResP := fun en => .ok none en
def mpS (m : EM) : En → ResP := fun en => match m en with
  | .ok (.int i) en' => .ok (some i) en'
  | .ok _ _ => .bad
  | .exc c x => .exc c x
  | .bad => .bad
theorem PO.imp {X : Cx} {e : Option Expr} {t t' : TO} (h : PO X e t) (i : ∀ σ H Q, t' σ H Q → t σ H Q) : PO X e t' := ⟨fun pins s σ H Q I q => h.run pins s σ H Q I (i σ H Q q)⟩
theorem pi_n : PI_ X G W lk Γ none Γ mpN := PO.imp po_none fun σ H Q ⟨B, Z, en, fps, C, o⟩ => o _ _ _ C
theorem pi_s {md : Md} (h : OI X G W lk Γ e md Γ' m) : PI_ X G W lk Γ (some e) Γ' (mpS m) := PO.imp (po_some h) fun σ H Q ⟨B, Z, en, fps, C, o⟩ => by
  refine ⟨B, Z, en, fps, C, ?_⟩
  unfold mpS at o
  cases e : m en with
  | bad => rw [e] at o; exact o
  | exc c x => rw [e] at o; exact o
  | ok d en' =>
    rw [e] at o
    cases d with
    | int i =>
      intro v Z' H' fps' C' h'
      obtain ⟨_, _, _, q⟩ := Md.any h'
      exact ⟨i, own_int q, o _ _ _ C'⟩
    | _ => exact o.elim
def cutL {α : Type} (xs : List α) (lo hi : Option Int) : List α := (xs.drop (HT.sIx xs.length 0 lo)).take (HT.sIx xs.length xs.length hi - HT.sIx xs.length 0 lo)
def dSlice (d : D) (lo hi : Option Int) : Option D := match d with
  | .lst xs => some (.lst (cutL xs lo hi))
  | .scr ns => some (.lst ((cutL ns lo hi).map .int))
  | .str z => if z.length ≤ lim then some (.str (cutS z lo hi)) else none
  | _ => none
def mSl (ma : EM) (ml mh : En → ResP) : EM := fun en => match ma en with
  | .ok d en1 => match ml en1 with
    | .ok lo en2 => match mh en2 with
      | .ok hi en3 => match dSlice d lo hi with
        | some d' => .ok d' en3
        | none => .bad
      | .exc c x => .exc c x
      | .bad => .bad
    | .exc c x => .exc c x
    | .bad => .bad
  | .exc c x => .exc c x
  | .bad => .bad
theorem OwnL.take : ∀ {vs : List V} {ds : List D} (n : Nat), OwnL G Z H 0 vs ds [] → OwnL G Z H 0 (vs.take n) (ds.take n) [] := by
  intro vs
  induction vs with
  | nil => intro ds n h; cases h; simpa using OwnL.nil
  | cons v vs ih =>
    intro ds n h
    generalize hf : ([] : List Addr) = f at h
    cases h with
    | @cons _ _ _ _ _ fp fq h t =>
      obtain ⟨rfl, rfl⟩ := List.append_eq_nil_iff.mp hf.symm
      cases n with
      | zero => exact OwnL.nil
      | succ n => exact OwnL.cons (fp := []) (fps := []) h (ih n t)
theorem OwnL.drop : ∀ {vs : List V} {ds : List D} (n : Nat), OwnL G Z H 0 vs ds [] → OwnL G Z H 0 (vs.drop n) (ds.drop n) [] := by
  intro vs
  induction vs with
  | nil => intro ds n h; cases h; simpa using OwnL.nil
  | cons v vs ih =>
    intro ds n h
    generalize hf : ([] : List Addr) = f at h
    cases h with
    | @cons _ _ _ _ _ fp fq h t =>
      obtain ⟨rfl, rfl⟩ := List.append_eq_nil_iff.mp hf.symm
      cases n with
      | zero => exact OwnL.cons (fp := []) (fps := []) h t
      | succ n => exact ih n t
theorem OwnL.cut {vs : List V} {ds : List D} (lo hi : Option Int) (h : OwnL G Z H 0 vs ds []) : OwnL G Z H 0 (cutV vs lo hi) (cutL ds lo hi) [] := by
  unfold cutV cutL
  rw [h.len]
  exact (h.drop _).take _
theorem ownL_ints (ns : List Int) : OwnL G Z H 0 (ns.map V.int) (ns.map D.int) [] := by
  induction ns with
  | nil => exact .nil
  | cons n ns ih => exact OwnL.cons (fp := []) (fps := []) .int ih
theorem cutV_map (ns : List Int) (lo hi : Option Int) : cutV (ns.map V.int) lo hi = (cutL ns lo hi).map V.int := by
  unfold cutV cutL
  rw [List.length_map, ← List.map_drop, ← List.map_take]
theorem ei_slice {lo hi : Option Expr} {ml mh : En → ResP} {p2 : Pos} (hK : G.K = X.K) (ha : OI X G W lk Γ a (.v L) Γ1 ma) (hl : PI_ X G W (L ++ lk) Γ1 lo Γ2 ml) (hh : PI_ X G W (L ++ lk) Γ2 hi Γ3 mh) :
    EI X G W lk Γ (.Subscript a (.Slice lo hi none p2) pos) 1 [] Γ3 (mSl ma ml mh) :=
  PE.imp (pe_slice (sl_list.or sl_str) ha hl hh) fun σ H Q ⟨B, Z, en, fps, C, o⟩ => by
    refine ⟨B, Z, en, fps, C, ?_⟩
    unfold mSl at o
    cases ea : ma en with
    | bad => rw [ea] at o; exact o.elim
    | exc c x => rw [ea] at o; exact o
    | ok d1 en1 =>
      rw [ea] at o
      dsimp only at o
      intro v1 Z1 H1 fps1 C1 h1
      have hl : ∀ i ∈ lk, i ∈ L ++ lk := fun i h => List.mem_append_right _ h
      have hL : ∀ i ∈ L, i ∈ L ++ lk := fun i h => List.mem_append_left _ h
      refine ⟨rb H1 Z1 (L ++ lk) fps1 B.pins, Z1, en1, fps1, C1.rebase _, ?_⟩
      cases eb : ml en1 with
      | bad => rw [eb] at o; exact o.elim
      | exc c x => rw [eb] at o; exact fun Cc dd H' x => o _ _ _ (x.comp C1 hl)
      | ok lo en2 =>
        rw [eb] at o
        intro Z2 H2 fps2 C2
        refine ⟨rb H1 Z1 (L ++ lk) fps1 B.pins, Z2, en2, fps2, C2, ?_⟩
        dsimp only at o
        cases ec : mh en2 with
        | bad => rw [ec] at o; exact o.elim
        | exc c x => rw [ec] at o; exact fun Cc dd H' x => o _ _ _ (x.comp C1 hl)
        | ok hi en3 =>
          rw [ec] at o
          intro Z3 H3 fps3 C3
          have C4 := C1.comp hl C3
          have h3 := Vw.stay h1 C1 hl hL C3
          dsimp only at o
          cases ed : dSlice d1 lo hi with
          | none => rw [ed] at o; exact o.elim
          | some d' =>
            rw [ed] at o
            unfold dSlice at ed
            split at ed
            · cases ed
              obtain ⟨p, vs, rfl, e1, o1⟩ := Vw.lst h3
              exact .inl ⟨p, vs, rfl, .of e1, fun r hr => o _ _ _ _ _ (C4.grow hr) (fresh_lst C4 (o1.cut lo hi) hr)⟩
            · rename_i ns
              cases ed
              obtain ⟨_, _, _, o3⟩ := Md.any (md := .v L) (B := B) h3
              obtain ⟨p, rfl, s⟩ := own_scr o3
              refine .inl ⟨p, _, rfl, hK ▸ s.sq, fun r hr => ?_⟩
              rw [cutV_map]
              exact o _ _ _ _ _ (C4.grow hr) (fresh_lst C4 (ownL_ints _) hr)
            · rename_i z
              split at ed
              · rename_i hz
                cases ed
                obtain ⟨_, _, _, o3⟩ := Md.any (md := .v L) (B := B) h3
                exact .inr ⟨z, own_str o3, lim_ok hz, o _ _ _ _ [] C4 (.sc .str)⟩
              · cases ed
            · cases ed
def dRev : D → Option D
  | .lst xs => some (.lst xs.reverse)
  | _ => none
theorem ownL_rev : ∀ {vs : List V} {ds : List D}, OwnL G Z H 0 vs ds [] → OwnL G Z H 0 vs.reverse ds.reverse [] := by
  intro vs
  induction vs with
  | nil => intro ds h; cases h; exact .nil
  | cons v vs ih =>
    intro ds h
    generalize hf : ([] : List Addr) = f at h
    cases h with
    | @cons _ _ _ _ _ fp fq h t =>
      obtain ⟨rfl, rfl⟩ := List.append_eq_nil_iff.mp hf.symm
      rw [List.reverse_cons, List.reverse_cons]
      exact (ih t).append (OwnL.cons (fp := []) (fps := []) h .nil)
theorem ei_rev {k : Nat} {p1 p2 p3 : Pos} (ha : OI X G W lk Γ a (.v L) Γ' m) : EI X G W lk Γ (.Subscript a (.Slice none none (some (.UnaryOp .USub (.Constant (.int 1) k p1) p2)) p3) pos) 1 [] Γ' (m1 dRev m) :=
  PE.imp (pe_revL ha) fun σ H Q ⟨B, Z, en, fps, C, o⟩ => ⟨B, Z, en, fps, C, out1 (md := .v L) o fun d d' v Z2 H2 fps2 en2 ef C2 h2 o => by
    unfold dRev at ef
    split at ef
    · cases ef
      obtain ⟨p, vs, rfl, e1, o1⟩ := Vw.lst h2
      exact ⟨p, vs, rfl, .of e1, fun r hr => o _ _ _ _ _ (C2.grow hr) (fresh_lst C2 (ownL_rev o1) hr)⟩
    · cases ef⟩
end
end Im
/-! Statements. -/
namespace Im
open PySem PySem.Spec PyProof.Rows L2
inductive SRes where
  | nx (en : En) | rt (d : D) (en : En) | exc (c : Str) (x : D) | bad
abbrev SM := En → SRes
/-- what a return gives back besides: the parameters that the caller keeps, by their kinds -/
structure RO where
  io : List (Option Nat)
  κ : Nat
def RO.Γ (r : RO) : List Nat := r.io.map (·.getD 0)
def maskE (io : List (Option Nat)) (en : En) : En := en.mapIdx fun i d => if (io.getD i none).isSome then d else none
def PinIn (B : Bs) (r : RO) : Prop := ∀ p ∈ B.pins, (r.io.getD p.1 none).isSome = true
section
variable {G : GI} {B B' : Bs} {W : WX} {lk lk' L L' L1 L2 : List Nat} {Z Z' : Addr → Prop} {σ σ' : St} {H H' : Hp} {Γ Γ' Γ1 Γ2 Γ3 : List Nat} {en en' : En} {fps fps' : Nat → List Addr} {κ κ' : Nat} {κs : List Nat} {v : V} {d : D} {ro : RO}
variable {X : Cx} {pos : Pos} {m ma mb : EM} {e a b : Expr}
def OutS (G : GI) (B : Bs) (W : WX) (lk : List Nat) (ro : RO) (Γ' : List Nat) (D : Ends) : SRes → Prop
  | .nx en' => ∀ σ' Z' H' fps', Cfg G B lk Z' σ' H' Γ' en' fps' → D.nx σ' H'
  | .rt d en' => ∀ v σ' Z' H' fps' fp, Cfg G B lk Z' σ' H' ro.Γ en' fps' → Held G B [] Z' H' fps' ro.κ v d fp → D.rt v H'
  | .exc c x => ∀ C dd σ' H', XOk G B H' c x C dd → W (.ref C) (some dd) σ' H'
  | .bad => False
def tS (G : GI) (W : WX) (lk : List Nat) (ro : RO) (Γ Γ' : List Nat) (m : SM) : TS := fun D σ H =>
  ∃ B Z en fps, PinIn B ro ∧ Cfg G B lk Z σ H Γ en fps ∧ OutS G B W lk ro Γ' D (m en)
def SI (X : Cx) (G : GI) (W : WX) (lk : List Nat) (ro : RO) (Γ : List Nat) (st : Stmt) (Γ' : List Nat) (m : SM) : Prop := PS X st (tS G W lk ro Γ Γ' m)
def SsI (X : Cx) (G : GI) (W : WX) (lk : List Nat) (ro : RO) (Γ : List Nat) (sts : List Stmt) (Γ' : List Nat) (m : SM) : Prop := PSs X sts (tS G W lk ro Γ Γ' m)
/-- a wish about exceptions that does not look at the names -/
def WFree (W : WX) : Prop := ∀ C d σ σ' H, W C d σ H → W C d σ' H
theorem OutS.comp {D : Ends} {r : SRes} (C : Cfg G B lk Z σ H Γ en fps) (hl : ∀ i ∈ lk, i ∈ lk') (o : OutS G B W lk ro Γ' D r) : OutS G (rb H Z lk' fps B.pins) W lk' ro Γ' D r := by
  cases r with
  | bad => exact o
  | exc c x => exact fun _ _ _ _ y => o _ _ _ _ (y.comp C hl)
  | nx en' => exact fun σ' Z' H' fps' D => o σ' Z' H' fps' (C.comp hl D)
  | rt d en' => exact fun v σ' Z' H' fps' fp D h => o v σ' Z' H' fps' fp (C.comp hl D) (h.comp C hl)
def mSeq (m1 m2 : SM) : SM := fun en => match m1 en with
  | .nx en' => m2 en'
  | r => r
def mPass : SM := fun en => .nx en
theorem ss_nil : SsI X G W lk ro Γ [] Γ mPass := PSs.imp pss_nil fun D σ H ⟨B, Z, en, fps, P, C, o⟩ => o σ Z H fps C
theorem ss_cons {st : Stmt} {rest : List Stmt} {m1 m2 : SM} (h1 : SI X G W lk ro Γ st Γ1 m1) (h2 : SsI X G W lk ro Γ1 rest Γ2 m2) : SsI X G W lk ro Γ (st :: rest) Γ2 (mSeq m1 m2) := PSs.imp (pss_cons h1 h2) fun D σ H ⟨B, Z, en, fps, P, C, o⟩ => by
  refine ⟨B, Z, en, fps, P, C, ?_⟩
  unfold mSeq at o
  cases e : m1 en with
  | bad => rw [e] at o; exact o
  | exc c x => rw [e] at o; exact o
  | rt d en' => rw [e] at o; exact o
  | nx en' =>
    rw [e] at o
    exact fun σ' Z' H' fps' C' => ⟨B, Z', en', fps', P, C', o⟩
theorem ss_one {st : Stmt} {m1 : SM} (h1 : SI X G W lk ro Γ st Γ1 m1) : SsI X G W lk ro Γ [st] Γ1 m1 := pss_one h1
theorem si_pass : SI X G W lk ro Γ (.Pass pos) Γ mPass := PS.imp ps_pass fun D σ H ⟨B, Z, en, fps, P, C, o⟩ => o σ Z H fps C
/-! ### a name gets a value -/
theorem Cfg.setP {i : Nat} {fp : List Addr} (C : Cfg G B lk Z σ H Γ en fps) (h : Held G B [] Z H fps κ v d fp) (hi : i ∉ lk) (hΓ : i < Γ.length) (hp : ∀ p ∈ B.pins, (σ.set i (some v))[p.1]? = some (some p.2)) :
    Cfg G B lk Z (σ.set i (some v)) H (Γ.set i κ) (en.set i (some d)) (fun j => if j = i then (if i < en.length then fp else []) else fps j) where
  bok := C.bok
  len := by rw [List.length_set, List.length_set]; exact C.len
  rep := fun j d' e => by
    by_cases hj : j = i
    · subst hj
      by_cases hl : j < en.length
      · rw [List.getElem?_set_self hl] at e
        cases e
        refine ⟨v, by rw [List.getElem?_set_self (by rw [C.len]; exact hl)], ?_⟩
        rw [if_pos rfl, if_pos hl]
        have g : (Γ.set j κ).getD j 0 = κ := by
          rw [List.getD_eq_getElem?_getD, List.getElem?_set_self hΓ]; rfl
        rw [g]
        exact h.own.monoZ fun a z => Zl_nil.mp z
      · rw [List.getElem?_eq_none (by simpa using hl)] at e; cases e
    · rw [List.getElem?_set_ne (Ne.symm hj)] at e
      obtain ⟨v', h1, h2⟩ := C.rep j d' e
      refine ⟨v', by rw [List.getElem?_set_ne (Ne.symm hj)]; exact h1, ?_⟩
      rw [if_neg hj]
      have g : (Γ.set i κ).getD j 0 = Γ.getD j 0 := by
        rw [List.getD_eq_getElem?_getD, List.getD_eq_getElem?_getD, List.getElem?_set_ne (Ne.symm hj)]
      rw [g]
      exact h2
  emp := fun j e => by
    by_cases hj : j = i
    · subst hj
      rw [if_pos rfl]
      by_cases hl : j < en.length
      · exact absurd (List.getElem?_set_self hl) (e d)
      · rw [if_neg hl]
    · rw [if_neg hj]
      exact C.emp j fun d' q => e d' (by rw [List.getElem?_set_ne (Ne.symm hj)]; exact q)
  nd := fun j => by
    by_cases hj : j = i
    · rw [if_pos hj]
      split
      · exact h.nd
      · exact List.nodup_nil
    · rw [if_neg hj]; exact C.nd j
  dis := fun j l a h1 h2 => by
    by_cases hj : j = i
    · rw [if_pos hj] at h1
      by_cases hl : l = i
      · rw [hj, hl]
      · rw [if_neg hl] at h2
        split at h1
        · exact absurd h2 (h.ds a h1 l)
        · cases h1
    · rw [if_neg hj] at h1
      by_cases hl : l = i
      · rw [if_pos hl] at h2
        split at h2
        · exact absurd h1 (h.ds a h2 j)
        · cases h2
      · rw [if_neg hl] at h2
        exact C.dis j l a h1 h2
  nz := fun j a h1 => by
    by_cases hj : j = i
    · rw [if_pos hj] at h1
      split at h1
      · exact h.nz a h1
      · cases h1
    · rw [if_neg hj] at h1; exact C.nz j a h1
  zt := C.zt
  keep := C.keep
  newf := fun j a h1 => by
    by_cases hj : j = i
    · rw [if_pos hj] at h1
      split at h1
      · exact (h.nw a h1).elim .inl fun z => .inr (.inr z)
      · cases h1
    · rw [if_neg hj] at h1; exact C.newf j a h1
  lkd := fun j l a h1 y => by
    by_cases hj : j = i
    · rw [if_pos hj] at h1
      split at h1
      · rcases C.lks l a y with z | z
        · exact absurd z (h.nz a h1)
        · exact absurd z (h.ds a h1 l)
      · cases h1
    · rw [if_neg hj] at h1; exact C.lkd j l a h1 y
  lks := fun j a y => by
    rcases C.lks j a y with z | z
    · exact .inl z
    · have hj : j ≠ i := fun q => hi (q ▸ C.bok.lki j a y)
      rw [if_neg hj]; exact .inr z
  zb := C.zb
  zn := C.zn
  pin := hp
theorem Cfg.set {i : Nat} {fp : List Addr} (C : Cfg G B lk Z σ H Γ en fps) (h : Held G B [] Z H fps κ v d fp) (hi : i ∉ lk) (hΓ : i < Γ.length) (hp : ∀ p ∈ B.pins, p.1 ≠ i) :
    Cfg G B lk Z (σ.set i (some v)) H (Γ.set i κ) (en.set i (some d)) (fun j => if j = i then (if i < en.length then fp else []) else fps j) :=
  C.setP h hi hΓ fun p m => by
    rw [List.getElem?_set_ne (Ne.symm (hp p m))]
    exact C.pin p m
/-- put back -/
theorem Cfg.put {i : Nat} {fp : List Addr} (C : Cfg G B lk Z σ H Γ en fps) (h : Held G B [] Z H fps κ v d fp) (hi : i ∉ lk) (hΓ : i < Γ.length) (hs : σ[i]? = some (some v)) :
    Cfg G B lk Z σ H (Γ.set i κ) (en.set i (some d)) (fun j => if j = i then (if i < en.length then fp else []) else fps j) := by
  have e : σ.set i (some v) = σ := by
    apply List.ext_getElem?
    intro j
    by_cases hj : i = j
    · subst hj
      have hl : i < σ.length := (List.getElem?_eq_some_iff.mp hs).1
      rw [List.getElem?_set_self hl, hs]
    · rw [List.getElem?_set_ne hj]
  have q := C.setP h hi hΓ fun p m => by rw [e]; exact C.pin p m
  rw [e] at q
  exact q
def mSet (i : Nat) (m : EM) : SM := fun en => match m en with
  | .ok d en' => .nx (en'.set i (some d))
  | .exc c x => .exc c x
  | .bad => .bad
theorem pin_ne {i : Nat} (P : PinIn B ro) (h : (ro.io.getD i none).isSome = false) : ∀ p ∈ B.pins, p.1 ≠ i := fun p m e => by
  have q := P p m
  rw [e, h] at q; cases q
theorem si_set {i : Nat} {x : Str} {pos' : Pos} (hN : X.N.Nodup) (hi : X.N[i]? = some x) (hx : Loc X.env.scope x) (he : EI X G W lk Γ e κ [] Γ1 m) (h1 : i ∉ lk := by decide) (h2 : i < Γ1.length := by decide) (h3 : (ro.io.getD i none).isSome = false := by rfl)
    (hs : swapsWith e (some (.Name x pos')) pos.line X.env = pure false := by rfl) (hf : X.fn x = true ∨ X.env.scope.names.lookup x = some .local := by first | exact .inl rfl | exact .inr rfl) (hW : WFree W) :
    SI X G W lk ro Γ (.Assign [.Name x pos'] e pos) (Γ1.set i κ) (mSet i m) := PS.imp (ps_set hN hi hx he hs hf) fun D σ H ⟨B, Z, en, fps, P, C, o⟩ => by
  refine ⟨B, Z, en, fps, C, ?_⟩
  unfold mSet at o
  cases e : m en with
  | bad => rw [e] at o; exact o
  | exc c x => rw [e] at o; exact fun Cc dd H' y => o Cc dd σ H' y
  | ok d en' =>
    rw [e] at o
    intro v Z' H' fps' fp C' h'
    exact o _ _ _ _ (C'.set h' h1 h2 (pin_ne P h3))
def mDrop (m : EM) : SM := fun en => match m en with
  | .ok _ en' => .nx en'
  | .exc c x => .exc c x
  | .bad => .bad
theorem si_expr (he : EI X G W lk Γ e κ L Γ1 m) (hs : swapsWith e none pos.line X.env = pure false := by rfl) : SI X G W lk ro Γ (.Expr e pos) Γ1 (mDrop m) := PS.imp (ps_expr he hs) fun D σ H ⟨B, Z, en, fps, P, C, o⟩ => by
  refine ⟨B, Z, en, fps, C, ?_⟩
  unfold mDrop at o
  cases e : m en with
  | bad => rw [e] at o; exact o
  | exc c x => rw [e] at o; exact fun Cc dd H' y => o Cc dd σ H' y
  | ok d en' =>
    rw [e] at o
    exact fun v Z' H' fps' fp C' h' => o _ _ _ _ C'
/-! ### return -/
theorem maskE_len (io : List (Option Nat)) (en : En) : (maskE io en).length = en.length := by unfold maskE; rw [List.length_mapIdx]
theorem maskE_get {io : List (Option Nat)} {en : En} {i : Nat} {d : D} (h : (maskE io en)[i]? = some (some d)) : en[i]? = some (some d) ∧ (io.getD i none).isSome = true := by
  unfold maskE at h
  rw [List.getElem?_mapIdx] at h
  cases e : en[i]? with
  | none => rw [e] at h; cases h
  | some x =>
    rw [e] at h
    simp only [Option.map_some, Option.some.injEq] at h
    split at h
    · rename_i q
      exact ⟨by rw [h], q⟩
    · cases h
def keepF (io : List (Option Nat)) (en : En) (fps : Nat → List Addr) : Nat → List Addr := fun i => if (io.getD i none).isSome then fps i else []
def Zk (Z : Addr → Prop) (lk : List Nat) (fps : Nat → List Addr) : Addr → Prop := fun a => Z a ∨ ∃ i ∈ lk, a ∈ fps i
theorem Cfg.mask {io : List (Option Nat)} (C : Cfg G B lk Z σ H Γ en fps) (hk : ∀ i k, io.getD i none = some k → Γ.getD i 0 = k) (hl : ∀ i ∈ lk, io.getD i none = none) : Cfg G B lk (Zk Z lk fps) σ H (io.map (·.getD 0)) (maskE io en) (keepF io en fps) where
  bok := C.bok
  len := by rw [maskE_len]; exact C.len
  rep := fun i d e => by
    obtain ⟨e1, e2⟩ := maskE_get e
    obtain ⟨v, h1, h2⟩ := C.rep i d e1
    refine ⟨v, h1, ?_⟩
    unfold keepF
    rw [if_pos e2]
    obtain ⟨k, e3⟩ := Option.isSome_iff_exists.mp e2
    have g : (io.map (·.getD 0)).getD i 0 = k := by
      rw [List.getD_eq_getElem?_getD, List.getElem?_map]
      rw [List.getD_eq_getElem?_getD] at e3
      cases q : io[i]? with
      | none => rw [q] at e3; cases e3
      | some y => rw [q] at e3; simp at e3; subst e3; rfl
    rw [g, ← hk i k e3]
    exact h2.monoZ fun a z => .inl z
  emp := fun i e => by
    unfold keepF
    split
    · rename_i q
      refine C.emp i fun d e1 => e d ?_
      unfold maskE
      rw [List.getElem?_mapIdx, e1]
      simp only [Option.map_some]
      rw [if_pos q]
    · rfl
  nd := fun i => by
    unfold keepF
    split
    · exact C.nd i
    · exact List.nodup_nil
  dis := fun i j a h h' => by
    unfold keepF at h h'
    split at h
    · split at h'
      · exact C.dis i j a h h'
      · cases h'
    · cases h
  nz := fun i a h z => by
    unfold keepF at h
    split at h
    · rename_i q
      rcases z with z | ⟨j, hj, z⟩
      · exact C.nz i a h z
      · have := C.dis i j a h z
        subst this
        rw [hl i hj] at q; cases q
    · cases h
  zt := fun a z => by
    rcases z with z | ⟨j, hj, z⟩
    · exact C.zt a z
    · obtain ⟨o, e, _⟩ := C.chg z
      exact ⟨o, e⟩
  keep := C.keep
  newf := fun i a h => by
    unfold keepF at h
    split at h
    · exact C.newf i a h
    · cases h
  lkd := fun i j a h y => by
    unfold keepF at h
    split at h
    · exact C.lkd i j a h y
    · cases h
  lks := fun i a y => by
    rcases C.lks i a y with z | z
    · exact .inl (.inl z)
    · exact .inl (.inr ⟨i, C.bok.lki i a y, z⟩)
  zb := fun a z => .inl (C.zb a z)
  zn := fun a z => by
    rcases z with z | ⟨i, hi, z⟩
    · exact C.zn a z
    · rcases C.newf i a z with y | y | y
      · exact .inr (.inl y)
      · exact .inr (.inr (.inl ⟨i, y⟩))
      · exact .inr (.inr (.inr y))
  pin := C.pin
theorem held_mask {io : List (Option Nat)} {fp : List Addr} (h : Held G B [] Z H fps κ v d fp) : Held G B [] (Zk Z lk fps) H (keepF io en fps) κ v d fp :=
  ⟨h.own.monoZ fun a z => .inl (.inl (Zl_nil.mp z)), h.nd, (fun a m z => z.elim (h.nz a m) fun ⟨i, _, q⟩ => h.ds a m i q), (fun a m i q => by
    unfold keepF at q
    split at q
    · exact h.ds a m i q
    · cases q), h.nw⟩
def roOk (ro : RO) (Γ : List Nat) : Bool := (List.range ro.io.length).all fun i => match ro.io.getD i none with | some k => Γ.getD i 0 == k | none => true
theorem roOk_of (h : roOk ro Γ = true) : ∀ i k, ro.io.getD i none = some k → Γ.getD i 0 = k := fun i k e => by
  unfold roOk at h
  rw [List.all_eq_true] at h
  have hi : i < ro.io.length := by
    rw [List.getD_eq_getElem?_getD] at e
    cases q : ro.io[i]? with
    | none => rw [q] at e; cases e
    | some y => exact (List.getElem?_eq_some_iff.mp q).1
  have q := h i (List.mem_range.mpr hi)
  rw [e] at q
  simpa using q
def mRet (io : List (Option Nat)) (m : EM) : SM := fun en => match m en with
  | .ok d en' => .rt d (maskE io en')
  | .exc c x => .exc c x
  | .bad => .bad
theorem si_ret (he : EI X G W lk Γ e ro.κ [] Γ1 m) (hr : roOk ro Γ1 = true := by decide) (hl : ∀ i ∈ lk, ro.io.getD i none = none := by decide) : SI X G W lk ro Γ (.Return (some e) pos) Γ' (mRet ro.io m) := PS.imp (ps_ret he) fun D σ H ⟨B, Z, en, fps, P, C, o⟩ => by
  refine ⟨B, Z, en, fps, C, ?_⟩
  unfold mRet at o
  cases e : m en with
  | bad => rw [e] at o; exact o
  | exc c x => rw [e] at o; exact fun Cc dd H' y => o Cc dd σ H' y
  | ok d en' =>
    rw [e] at o
    exact fun v Z' H' fps' fp C' h' => o _ _ _ _ _ _ (C'.mask (roOk_of hr) hl) (held_mask (en := en') h')
/-! ### if -/
def mIfS (mc : EM) (ma mb : SM) : SM := fun en => match mc en with
  | .ok (.bl true) en1 => ma en1
  | .ok (.bl false) en1 => mb en1
  | .ok _ _ => .bad
  | .exc c x => .exc c x
  | .bad => .bad
theorem si_if {c : Expr} {sa sb : List Stmt} {mc : EM} {ma mb : SM} (hc : TI X G W lk Γ c Γ1 mc) (ha : SsI X G W lk ro Γ1 sa Γ' ma) (hb : SsI X G W lk ro Γ1 sb Γ' mb) : SI X G W lk ro Γ (.If c sa sb pos) Γ' (mIfS mc ma mb) :=
  PS.imp (ps_if hc ha hb) fun D σ H ⟨B, Z, en, fps, P, C, o⟩ => by
    refine ⟨B, Z, en, fps, C, ?_⟩
    unfold mIfS at o
    cases e : mc en with
    | bad => rw [e] at o; exact o
    | exc c x => rw [e] at o; exact fun Cc dd H' y => o Cc dd σ H' y
    | ok d en' =>
      rw [e] at o
      cases d with
      | bl c =>
        intro Z' H' fps' C'
        cases c with
        | true =>
          rw [if_pos rfl]
          exact ⟨B, Z', en', fps', P, C', o⟩
        | false =>
          rw [if_neg Bool.false_ne_true]
          exact ⟨B, Z', en', fps', P, C', o⟩
      | _ => exact o.elim
/-! ### forgetting names, giving up -/
def killE (is : List Nat) (en : En) : En := is.foldl (fun en i => en.set i none) en
theorem Cfg.killS : ∀ {is : List Nat} {en : En} {fps : Nat → List Addr}, Cfg G B lk Z σ H Γ en fps → (∀ i ∈ is, i ∉ lk) → ∃ fps', Cfg G B lk Z σ H Γ (killE is en) fps' ∧ ∀ i a, a ∈ fps' i → a ∈ fps i
  | [], _, fps, C, _ => ⟨fps, C, fun _ _ h => h⟩
  | i :: is, en, fps, C, h => by
    have C1 := C.drop i (h i List.mem_cons_self)
    obtain ⟨f, C2, s⟩ := C1.killS (is := is) fun j m => h j (List.mem_cons_of_mem _ m)
    refine ⟨f, C2, fun j a m => ?_⟩
    have q := s j a m
    split at q
    · cases q
    · exact q
theorem Cfg.kill {is : List Nat} {en : En} {fps : Nat → List Addr} (C : Cfg G B lk Z σ H Γ en fps) (h : ∀ i ∈ is, i ∉ lk) : ∃ fps', Cfg G B lk Z σ H Γ (killE is en) fps' := by
  obtain ⟨f, C2, _⟩ := C.killS h
  exact ⟨f, C2⟩
theorem killE_none : ∀ {is : List Nat} {en : En} {i : Nat} {d : D}, i ∈ is → (killE is en)[i]? ≠ some (some d) := by
  have keep : ∀ (is : List Nat) (en : En) (i : Nat) (d : D), en[i]? ≠ some (some d) → (killE is en)[i]? ≠ some (some d) := by
    intro is
    induction is with
    | nil => intro en i d h; exact h
    | cons j is ih =>
      intro en i d h
      refine ih (en.set j none) i d fun q => ?_
      by_cases e : j = i
      · subst e
        by_cases hl : j < en.length
        · rw [List.getElem?_set_self hl] at q; cases q
        · rw [List.getElem?_eq_none (by simpa using hl)] at q; cases q
      · rw [List.getElem?_set_ne e] at q; exact h q
  intro is
  induction is with
  | nil => intro en i d h; cases h
  | cons j is ih =>
    intro en i d h
    rcases List.mem_cons.mp h with rfl | h
    · refine keep is _ _ d fun q => ?_
      by_cases hl : i < en.length
      · rw [List.getElem?_set_self hl] at q; cases q
      · rw [List.getElem?_eq_none (by simpa using hl)] at q; cases q
    · exact ih h
def mKill (is : List Nat) (m : SM) : SM := fun en => match m en with
  | .nx en' => .nx (killE is en')
  | r => r
theorem si_kill {st : Stmt} {m1 : SM} (is : List Nat) (h : SI X G W lk ro Γ st Γ1 m1) (hk : ∀ i ∈ is, i ∉ lk := by decide) : SI X G W lk ro Γ st Γ1 (mKill is m1) := PS.imp h fun D σ H ⟨B, Z, en, fps, P, C, o⟩ => by
  refine ⟨B, Z, en, fps, P, C, ?_⟩
  unfold mKill at o
  cases e : m1 en with
  | bad => rw [e] at o; exact o
  | exc c x => rw [e] at o; exact o
  | rt d en' => rw [e] at o; exact o
  | nx en' =>
    rw [e] at o
    intro σ' Z' H' fps' C'
    obtain ⟨f2, C2⟩ := C'.kill (is := is) hk
    exact o _ _ _ _ C2
/-! ### targets -/
/-- off these slots nothing is set -/
def Off (ts : List Nat) (σ σ' : St) : Prop := σ'.length = σ.length ∧ ∀ j, j ∉ ts → σ'[j]? = σ[j]?
theorem Off.refl {ts : List Nat} : Off ts σ σ := ⟨rfl, fun _ _ => rfl⟩
theorem Off.trans {ts us : List Nat} {σ'' : St} (a : Off ts σ σ') (b : Off us σ' σ'') : Off (ts ++ us) σ σ'' := ⟨b.1.trans a.1, fun j h => (b.2 j fun m => h (List.mem_append_right _ m)).trans (a.2 j fun m => h (List.mem_append_left _ m))⟩
def OutG (G : GI) (B : Bs) (lk : List Nat) (Γ' : List Nat) (P : St → Prop) (Q : St → Hp → Prop) : Option En → Prop
  | some en' => ∀ σ' Z' H' fps', Cfg G B lk Z' σ' H' Γ' en' fps' → P σ' → Q σ' H'
  | none => False
def tG (G : GI) (lk : List Nat) (ro : RO) (Γ : List Nat) (κ : Nat) (Γ' : List Nat) (ts : List Nat) (mg : D → En → Option En) : TG := fun v σ H Q =>
  ∃ B Z en fps d fp, PinIn B ro ∧ Cfg G B lk Z σ H Γ en fps ∧ Held G B [] Z H fps κ v d fp ∧ OutG G B lk Γ' (Off ts σ) Q (mg d en)
/-- a target that gets a value of the kind κ; it sets no slots but ts -/
def TgI (X : Cx) (G : GI) (lk : List Nat) (ro : RO) (Γ : List Nat) (tg : Expr) (κ : Nat) (Γ' : List Nat) (ts : List Nat) (mg : D → En → Option En) : Prop := PG X tg (tG G lk ro Γ κ Γ' ts mg)
theorem PG.imp {X : Cx} {e : Expr} {t t' : TG} (h : PG X e t) (i : ∀ v σ H Q, t' v σ H Q → t v σ H Q) : PG X e t' := ⟨fun pins s σ H v u Q I r q => h.run pins s σ H v u Q I r (i v σ H Q q)⟩
theorem PGs.imp {X : Cx} {es : List Expr} {t t' : TGs} (h : PGs X es t) (i : ∀ v σ H Q, t' v σ H Q → t v σ H Q) : PGs X es t' := ⟨fun pins s σ H v u Q I r q => h.run pins s σ H v u Q I r (i v σ H Q q)⟩
def gSet (i : Nat) : D → En → Option En := fun d en => some (en.set i (some d))
theorem tg_name {i : Nat} {x : Str} (hN : X.N.Nodup) (hi : X.N[i]? = some x) (hx : Loc X.env.scope x) (h1 : i ∉ lk := by decide) (h2 : i < Γ.length := by decide) (h3 : (ro.io.getD i none).isSome = false := by rfl)
    (hf : X.fn x = true ∨ X.env.scope.names.lookup x = some .local := by first | exact .inl rfl | exact .inr rfl) : TgI X G lk ro Γ (.Name x pos) κ (Γ.set i κ) [i] (gSet i) :=
  PG.imp (pg_name hN hi hx hf) fun v σ H Q ⟨B, Z, en, fps, d, fp, P, C, h, o⟩ => o _ _ _ _ (C.set h h1 h2 (pin_ne P h3)) ⟨List.length_set, fun j hj => List.getElem?_set_ne fun e => hj (by simp [e])⟩
/-! ### a base from which some more may be changed -/
def rbS (H : Hp) (Z : Addr → Prop) (lk : List Nat) (fps : Nat → List Addr) (pins : List (Nat × V)) (S : List Addr) : Bs := ⟨H, Z, fun a => (∃ i, i ∉ lk ∧ a ∈ fps i) ∨ a ∈ S, fun i a => i ∈ lk ∧ a ∈ fps i, pins⟩
theorem Cfg.rebaseS {S : List Addr} (C : Cfg G B lk Z σ H Γ en fps) (hc : ∀ a ∈ S, ∃ o, H a = some o ∧ Chg o) (hz : ∀ a ∈ S, ¬ Z a) (hd : ∀ a ∈ S, ∀ i, a ∉ fps i) : Cfg G (rbS H Z lk fps B.pins S) lk Z σ H Γ en fps where
  bok := ⟨fun a z => z.elim (fun ⟨i, _, h⟩ => C.chg h) (hc a), fun i a ⟨_, h⟩ => C.chg h, fun i a h => h.1, C.zt, fun a z y => y.elim (fun ⟨i, _, h⟩ => C.nz i a h z) fun h => hz a h z, fun i a z ⟨_, h⟩ => C.nz i a h z⟩
  len := C.len
  rep := C.rep
  emp := C.emp
  nd := C.nd
  dis := C.dis
  nz := C.nz
  zt := C.zt
  keep := fun a o e _ => e
  newf := fun i a h => by
    by_cases hi : i ∈ lk
    · exact .inr (.inl ⟨hi, h⟩)
    · exact .inl (.inl ⟨i, hi, h⟩)
  lkd := fun i j a h ⟨_, h'⟩ => C.dis i j a h h'
  lks := fun i a h => .inr h.2
  zb := fun a z => z
  zn := fun a z => .inl z
  pin := C.pin
theorem Cfg.compS {S : List Addr} (C : Cfg G B lk Z σ H Γ en fps) (hn : ∀ a ∈ S, B.F a ∨ B.H a = none) (D : Cfg G (rbS H Z lk fps B.pins S) lk Z' σ' H' Γ' en' fps') : Cfg G B lk Z' σ' H' Γ' en' fps' where
  bok := C.bok
  len := D.len
  rep := D.rep
  emp := D.emp
  nd := D.nd
  dis := D.dis
  nz := D.nz
  zt := D.zt
  keep := fun a o e n => D.keep a o (C.keep a o e n) fun z => by
    rcases z with z | z
    · exact C.nF (fun _ h => h) e n z
    · rcases hn a z with y | y
      · exact n y
      · rw [e] at y; cases y
  newf := fun i a h => by
    rcases D.newf i a h with (⟨j, hj, z⟩ | z) | ⟨hi, z⟩ | z
    · rcases C.newf j a z with y | y | y
      · exact .inl y
      · exact absurd (C.bok.lki j a y) hj
      · exact .inr (.inr y)
    · exact (hn a z).elim .inl fun y => .inr (.inr y)
    · exact C.newf i a z
    · rcases C.none_of z with y | y
      · exact .inl y
      · exact .inr (.inr y)
  lkd := fun i j a h y => by
    rcases C.lks j a y with z | z
    · exact absurd (D.zb a z) (D.nz i a h)
    · exact D.lkd i j a h ⟨C.bok.lki j a y, z⟩
  lks := fun i a y => by
    rcases C.lks i a y with z | z
    · exact .inl (D.zb a z)
    · exact D.lks i a ⟨C.bok.lki i a y, z⟩
  zb := fun a z => D.zb a (C.zb a z)
  zn := fun a z => by
    have fr : ∀ i, a ∈ fps i → B.Z a ∨ B.F a ∨ (∃ i, B.Lk i a) ∨ B.H a = none := fun i h => by
      rcases C.newf i a h with y | y | y
      · exact .inr (.inl y)
      · exact .inr (.inr (.inl ⟨i, y⟩))
      · exact .inr (.inr (.inr y))
    rcases D.zn a z with y | (⟨i, _, h⟩ | h) | ⟨i, _, h⟩ | y
    · exact C.zn a y
    · exact fr i h
    · exact (hn a h).elim (fun y => .inr (.inl y)) fun y => .inr (.inr (.inr y))
    · exact fr i h
    · rcases C.none_of y with w | w
      · exact .inr (.inl w)
      · exact .inr (.inr (.inr w))
  pin := D.pin
theorem HeldL.stayS {S fp : List Addr} {vs : List V} {ds : List D} (h : HeldL G B [] Z H fps κ vs ds fp) (C : Cfg G B lk Z σ H Γ en fps) (hS : ∀ a ∈ fp, a ∉ S) (hz : ∀ a ∈ S, ¬ Z a) (D : Cfg G (rbS H Z lk fps B.pins S) lk Z' σ' H' Γ' en' fps') : HeldL G B [] Z' H' fps' κ vs ds fp := by
  have st : ∀ a o, H a = some o → (∀ i, a ∉ fps i) → a ∉ S → H' a = some o := fun a o e n1 n2 => D.keep a o e fun z => z.elim (fun ⟨i, _, h⟩ => n1 i h) n2
  refine ⟨ownL_keep (fun a o e n => D.stayI a o e n) (fun a z => ?_) h.own fun a m o e => st a o e (h.ds a m) (hS a m), h.nd, fun a m z => ?_, fun a m i q => ?_, h.nw⟩
  · have z := Zl_nil.mp z
    exact ⟨.inl (D.zb a z), fun o e => st a o e (fun i m => C.nz i a m z) fun m => hz a m z⟩
  · rcases D.zn a z with y | (⟨i, _, y⟩ | y) | ⟨i, _, y⟩ | y
    · exact h.nz a m y
    · exact h.ds a m i y
    · exact hS a m y
    · exact h.ds a m i y
    · obtain ⟨o, e, _⟩ := h.own.chg a m
      have y : H a = none := y
      rw [e] at y; cases y
  · rcases D.newf i a q with (⟨j, _, y⟩ | y) | ⟨_, y⟩ | y
    · exact h.ds a m j y
    · exact hS a m y
    · exact h.ds a m i y
    · obtain ⟨o, e, _⟩ := h.own.chg a m
      have y : H a = none := y
      rw [e] at y; cases y
/-- the items of a tuple, one after another -/
def tGs (G : GI) (lk : List Nat) (ro : RO) (Γ : List Nat) (κ : Nat) (Γ' ts : List Nat) (mg : List D → En → Option En) : TGs := fun vs σ H Q =>
  ∃ B Z en fps ds fp, PinIn B ro ∧ Cfg G B lk Z σ H Γ en fps ∧ HeldL G B [] Z H fps κ vs ds fp ∧ OutG G B lk Γ' (Off ts σ) Q (mg ds en)
def TgsI (X : Cx) (G : GI) (lk : List Nat) (ro : RO) (Γ : List Nat) (tgs : List Expr) (κ : Nat) (Γ' ts : List Nat) (mg : List D → En → Option En) : Prop := PGs X tgs (tGs G lk ro Γ κ Γ' ts mg)
def gNil : List D → En → Option En := fun ds en => match ds with
  | [] => some en
  | _ => none
def gCons (g : D → En → Option En) (gs : List D → En → Option En) : List D → En → Option En := fun ds en => match ds with
  | d :: ds => match g d en with
    | some en' => gs ds en'
    | none => none
  | [] => none
theorem tgs_nil : TgsI X G lk ro Γ [] κ Γ [] gNil := PGs.imp pgs_nil fun vs σ H Q ⟨B, Z, en, fps, ds, fp, P, C, h, o⟩ => by
  cases ds with
  | nil =>
    have q := h.own.len
    cases vs with
    | nil => exact ⟨rfl, o _ _ _ _ C .refl⟩
    | cons v vs => simp at q
  | cons d ds => exact o.elim
theorem tgs_cons {tg : Expr} {tgs : List Expr} {ts us : List Nat} {g : D → En → Option En} {gs : List D → En → Option En} (h1 : TgI X G lk ro Γ tg κ Γ1 ts g) (h2 : TgsI X G lk ro Γ1 tgs κ Γ2 us gs)
    (hs : (assignEach (tg :: tgs) X.env).map (·.2) = assign tg X.env :: (assignEach tgs X.env).map (·.2) := by rfl) : TgsI X G lk ro Γ (tg :: tgs) κ Γ2 (ts ++ us) (gCons g gs) := PGs.imp (pgs_cons h1 h2 hs) fun vs σ H Q ⟨B, Z, en, fps, ds, fp, P, C, h, o⟩ => by
  cases ds with
  | nil => exact o.elim
  | cons d ds =>
    obtain ⟨ho, hn, hz, hd, hw⟩ := h
    generalize hf : fp = f at ho
    cases ho with
    | @cons _ v _ vs _ f1 f2 o1 o2 =>
      subst hf
      have n := List.nodup_append.mp hn
      have z1 : ∀ a ∈ f1, ¬ Z a := fun a m => hz a (List.mem_append_left _ m)
      have d1 : ∀ a ∈ f1, ∀ i, a ∉ fps i := fun a m => hd a (List.mem_append_left _ m)
      have hL : HeldL G B [] Z H fps κ vs ds f2 := ⟨o2, n.2.1, fun a m => hz a (List.mem_append_right _ m), fun a m => hd a (List.mem_append_right _ m), fun a m => hw a (List.mem_append_right _ m)⟩
      refine ⟨v, vs, rfl, rbS H Z lk fps B.pins f1, Z, en, fps, d, f1, P, C.rebaseS (fun a m => o1.chg a m) z1 d1, ⟨o1, n.1, z1, d1, fun a m => .inl (.inr m)⟩, ?_⟩
      unfold gCons at o
      dsimp only at o
      cases e : g d en with
      | none => rw [e] at o; exact o.elim
      | some en1 =>
        rw [e] at o
        intro σ1 Z1 H1 fps1 C1 f1
        have C2 := C.compS (fun a m => hw a (List.mem_append_left _ m)) C1
        refine ⟨B, Z1, en1, fps1, ds, f2, P, C2, hL.stayS C (fun a m m' => n.2.2 a m' a m rfl) z1 C1, ?_⟩
        dsimp only at o
        cases e2 : gs ds en1 with
        | none => rw [e2] at o; exact o.elim
        | some en2 =>
          rw [e2] at o
          exact fun σ2 Z2 H2 fps2 C3 f2 => o σ2 Z2 H2 fps2 C3 (f1.trans f2)
def mgTup (n : Nat) (gs : List D → En → Option En) : D → En → Option En := fun d en => match d with
  | .tup ds => if ds.length = n then gs ds en else none
  | _ => none
theorem tg_tup {es : List Expr} {k n : Nat} {ts : List Nat} {gs : List D → En → Option En} (hc : X.calm = true) (h : TgsI X G lk ro Γ es κ Γ' ts gs)
    (hn : (assignEach es X.env).length = n := by rfl) (hst : (assignEach es X.env).findIdx? (·.1) = none := by rfl) : TgI X G lk ro Γ (.Tuple es k pos) κ Γ' ts (mgTup n gs) :=
  PG.imp (pg_tup hc h hn hst) fun v σ H Q ⟨B, Z, en, fps, d, fp, P, C, h, o⟩ => by
    unfold mgTup at o
    split at o
    · rename_i ds
      split at o
      · rename_i hl
        obtain ⟨ho, hn, hz, hd, hw⟩ := h
        cases ho with
        | tup e oL =>
          exact ⟨_, _, rfl, .inl (.of e), oL.len.trans hl, B, Z, en, fps, ds, fp, P, C, ⟨oL, hn, hz, hd, hw⟩, o⟩
      · exact o.elim
    · exact o.elim
/-- target = value -/
def mAsg (m : EM) (g : D → En → Option En) : SM := fun en => match m en with
  | .ok d en' => match g d en' with
    | some en2 => .nx en2
    | none => .bad
  | .exc c x => .exc c x
  | .bad => .bad
theorem si_asg {tg : Expr} {ts : List Nat} {g : D → En → Option En} (hW : WFree W) (he : EI X G W lk Γ e κ [] Γ1 m) (hg : TgI X G lk ro Γ1 tg κ Γ2 ts g) (hs : swapsWithSole [tg] e pos.line X.env = pure false := by rfl) (hw : swappedStores [tg] e X.env = pure none := by rfl)
    (h1 : (assignEach [tg] X.env).map (·.2) = [assign tg X.env] := by rfl) : SI X G W lk ro Γ (.Assign [tg] e pos) Γ2 (mAsg m g) := PS.imp (ps_asg he hg hs hw h1) fun D σ H ⟨B, Z, en, fps, P, C, o⟩ => by
  refine ⟨B, Z, en, fps, C, ?_⟩
  unfold mAsg at o
  cases e : m en with
  | bad => rw [e] at o; exact o
  | exc c x => rw [e] at o; exact fun Cc dd H' y => o Cc dd σ H' y
  | ok d en' =>
    rw [e] at o
    dsimp only at o
    intro v Z' H' fps' fp C' h'
    refine ⟨B, Z', en', fps', d, fp, P, C', h', ?_⟩
    cases e2 : g d en' with
    | none => rw [e2] at o; exact o.elim
    | some en2 =>
      rw [e2] at o
      exact fun σ2 Z2 H2 fps2 C2 _ => o σ2 Z2 H2 fps2 C2
/-! ### kinds made smaller -/
theorem Cfg.low1 (C : Cfg G B lk Z σ H Γ en fps) (i k : Nat) (hk : k ≤ Γ.getD i 0) : ∃ Z' fps', Cfg G B lk Z' σ H (Γ.set i k) en fps' := by
  by_cases hd : ∃ d, en[i]? = some (some d)
  · obtain ⟨d, e⟩ := hd
    obtain ⟨v, h1, h2⟩ := C.rep i d e
    obtain ⟨fp', sub, o⟩ := h2.lower hk (C.nd i)
    have gs : ∀ (hl : i < Γ.length), (Γ.set i k).getD i 0 = k := fun hl => by rw [List.getD_eq_getElem?_getD, List.getElem?_set_self hl]; rfl
    have gk : (Γ.set i k).getD i 0 = k := by
      by_cases hl : i < Γ.length
      · exact gs hl
      · have z : Γ.getD i 0 = 0 := by rw [List.getD_eq_getElem?_getD, List.getElem?_eq_none (by omega)]; rfl
        rw [List.getD_eq_getElem?_getD, List.getElem?_eq_none (by simp; omega)]
        show 0 = k
        omega
    refine ⟨fun a => Z a ∨ (a ∈ fps i ∧ a ∉ fp'), fun j => if j = i then fp' else fps j, ?_⟩
    exact {
      bok := C.bok
      len := C.len
      rep := fun j d' e' => by
        obtain ⟨v', h1', h2'⟩ := C.rep j d' e'
        by_cases hj : j = i
        · subst hj
          rw [e] at e'; cases e'
          rw [h1] at h1'; cases h1'
          refine ⟨v, h1, ?_⟩
          rw [if_pos rfl, gk]
          exact o
        · refine ⟨v', h1', ?_⟩
          rw [if_neg hj]
          have g : (Γ.set i k).getD j 0 = Γ.getD j 0 := by
            rw [List.getD_eq_getElem?_getD, List.getD_eq_getElem?_getD, List.getElem?_set_ne (Ne.symm hj)]
          rw [g]
          exact h2'.monoZ fun a z => .inl z
      emp := fun j e' => by
        by_cases hj : j = i
        · subst hj; exact absurd e (e' d)
        · rw [if_neg hj]; exact C.emp j e'
      nd := fun j => by
        by_cases hj : j = i
        · rw [if_pos hj]; exact (C.nd i).sublist sub
        · rw [if_neg hj]; exact C.nd j
      dis := fun j l a h h' => by
        have hh : ∀ j, a ∈ (if j = i then fp' else fps j) → a ∈ fps j := fun j h => by
          split at h
          · rename_i q; rw [q]; exact sub.subset h
          · exact h
        exact C.dis j l a (hh j h) (hh l h')
      nz := fun j a h z => by
        split at h
        · rename_i hj
          rcases z with z | z
          · exact C.nz i a (sub.subset h) z
          · exact z.2 h
        · rename_i hj
          rcases z with z | z
          · exact C.nz j a h z
          · exact hj (C.dis j i a h z.1)
      zt := fun a z => by
        rcases z with z | z
        · exact C.zt a z
        · obtain ⟨o, e, _⟩ := C.chg z.1
          exact ⟨o, e⟩
      keep := C.keep
      newf := fun j a h => by
        split at h
        · rename_i hj; rw [hj]; exact C.newf i a (sub.subset h)
        · exact C.newf j a h
      lkd := fun j l a h y => by
        split at h
        · rename_i hj; rw [hj]; exact C.lkd i l a (sub.subset h) y
        · exact C.lkd j l a h y
      lks := fun j a h => by
        rcases C.lks j a h with z | z
        · exact .inl (.inl z)
        · by_cases hj : j = i
          · rw [if_pos hj]
            by_cases hm : a ∈ fp'
            · exact .inr hm
            · exact .inl (.inr ⟨hj ▸ z, hm⟩)
          · rw [if_neg hj]; exact .inr z
      zb := fun a z => .inl (C.zb a z)
      zn := fun a z => by
        rcases z with z | z
        · exact C.zn a z
        · rcases C.newf i a z.1 with y | y | y
          · exact .inr (.inl y)
          · exact .inr (.inr (.inl ⟨i, y⟩))
          · exact .inr (.inr (.inr y))
      pin := C.pin }
  · refine ⟨Z, fps, ?_⟩
    have hr : ∀ j d', en[j]? = some (some d') → ∃ v, σ[j]? = some (some v) ∧ Own G Z H ((Γ.set i k).getD j 0) v d' (fps j) := fun j d' e' => by
      obtain ⟨v', h1', h2'⟩ := C.rep j d' e'
      have hj : j ≠ i := fun q => hd ⟨d', q ▸ e'⟩
      refine ⟨v', h1', ?_⟩
      have g : (Γ.set i k).getD j 0 = Γ.getD j 0 := by
        rw [List.getD_eq_getElem?_getD, List.getD_eq_getElem?_getD, List.getElem?_set_ne (Ne.symm hj)]
      rw [g]
      exact h2'
    exact { C with rep := hr }
def lowsOk : List (Nat × Nat) → List Nat → Bool
  | [], _ => true
  | (i, k) :: r, Γ => decide (k ≤ Γ.getD i 0) && lowsOk r (Γ.set i k)
def lowsΓ : List (Nat × Nat) → List Nat → List Nat
  | [], Γ => Γ
  | (i, k) :: r, Γ => lowsΓ r (Γ.set i k)
theorem Cfg.lows : ∀ (r : List (Nat × Nat)) {Γ : List Nat} {Z : Addr → Prop} {fps : Nat → List Addr}, Cfg G B lk Z σ H Γ en fps → lowsOk r Γ = true → ∃ Z' fps', Cfg G B lk Z' σ H (lowsΓ r Γ) en fps'
  | [], _, _, _, C, _ => ⟨_, _, C⟩
  | (i, k) :: r, Γ, _, _, C, h => by
    unfold lowsOk at h
    rw [Bool.and_eq_true] at h
    obtain ⟨_, _, C'⟩ := C.low1 i k (of_decide_eq_true h.1)
    exact C'.lows r h.2
theorem si_low {st : Stmt} {m1 : SM} (r : List (Nat × Nat)) (h : SI X G W lk ro Γ st Γ1 m1) (hk : lowsOk r Γ1 = true := by decide) (h2 : lowsΓ r Γ1 = Γ2 := by decide) : SI X G W lk ro Γ st Γ2 m1 := PS.imp h fun D σ H ⟨B, Z, en, fps, P, C, o⟩ => by
  refine ⟨B, Z, en, fps, P, C, ?_⟩
  cases e : m1 en with
  | bad => rw [e] at o; exact o
  | exc c x => rw [e] at o; exact o
  | rt d en' => rw [e] at o; exact o
  | nx en' =>
    rw [e] at o
    intro σ' Z' H' fps' C'
    obtain ⟨Z2, f2, C2⟩ := C'.lows r hk
    rw [h2] at C2
    exact o _ _ _ _ C2
theorem ss_low {st : List Stmt} {m1 : SM} (r : List (Nat × Nat)) (h : SsI X G W lk ro Γ st Γ1 m1) (hk : lowsOk r Γ1 = true := by decide) (h2 : lowsΓ r Γ1 = Γ2 := by decide) : SsI X G W lk ro Γ st Γ2 m1 := PSs.imp h fun D σ H ⟨B, Z, en, fps, P, C, o⟩ => by
  refine ⟨B, Z, en, fps, P, C, ?_⟩
  cases e : m1 en with
  | bad => rw [e] at o; exact o
  | exc c x => rw [e] at o; exact o
  | rt d en' => rw [e] at o; exact o
  | nx en' =>
    rw [e] at o
    intro σ' Z' H' fps' C'
    obtain ⟨Z2, f2, C2⟩ := C'.lows r hk
    rw [h2] at C2
    exact o _ _ _ _ C2
/-- ahead of a statement -/
theorem si_pre {st : Stmt} {m1 : SM} (r : List (Nat × Nat)) (h : SI X G W lk ro Γ1 st Γ2 m1) (hk : lowsOk r Γ = true := by decide) (h2 : lowsΓ r Γ = Γ1 := by decide) : SI X G W lk ro Γ st Γ2 m1 := PS.imp h fun D σ H ⟨B, Z, en, fps, P, C, o⟩ => by
  obtain ⟨Z2, f2, C2⟩ := C.lows r hk
  rw [h2] at C2
  exact ⟨B, Z2, en, f2, P, C2, o⟩
end
end Im
/-! What a loop walks; for; while. -/
namespace Im
open PySem PySem.Spec PyProof.Rows L2
abbrev TIr := St → Hp → (It → Hp → Prop) → Prop
/-- what an iterator yields -/
def Fresh (G : GI) (Z : Addr → Prop) (H : Hp) (x : V) (d : D) (H' : Hp) : Prop :=
  (H' = H ∧ Own G Z H 0 x d []) ∨ ∃ T vs dv, x = .ref T ∧ H T = none ∧ H' = upd H T (.tup vs) ∧ d = .tup dv ∧ OwnL G Z H 0 vs dv []
/-- while A holds, J walks ds -/
structure Live (G : GI) (J : It) (ds : List D) (A : (Addr → Prop) → Hp → Prop) : Prop where
  go : ∀ Z H i, A Z H → i < ds.length → J.go i H
  stop : ∀ Z H i, A Z H → ds.length ≤ i → J.stop i H
  yld : ∀ Z H i d x H', A Z H → ds[i]? = some d → J.yld i H x H' → Fresh G Z H x d H'
section
variable {G : GI} {B B' : Bs} {W : WX} {lk lk' L L' La Lb : List Nat} {Z Z' : Addr → Prop} {σ σ' : St} {H H' : Hp} {Γ Γ' Γ1 Γ2 Γ3 Γb : List Nat} {en en' : En} {fps fps' : Nat → List Addr} {κ κ' : Nat} {κs : List Nat} {v : V} {d : D} {ro : RO}
variable {X : Cx} {pos : Pos} {m ma mb : EM} {e a b : Expr}
theorem Fresh.cfg {x : V} (f : Fresh G Z H x d H') (C : Cfg G B lk Z σ H Γ en fps) : Cfg G B lk Z σ H' Γ en fps ∧ Held G B [] Z H' fps 0 x d [] := by
  rcases f with ⟨rfl, o⟩ | ⟨T, vs, dv, rfl, hT, rfl, rfl, o⟩
  · exact ⟨C, held_frz (o.monoZ fun a z => Zl_nil.mpr z)⟩
  · exact ⟨C.grow hT, fresh_tup C o hT⟩
def OutI (G : GI) (B : Bs) (W : WX) (lk L Γ' : List Nat) (σ : St) (R : It → Hp → Prop) : ResL → Prop
  | .ok ds en' => ∀ J A Z' H' fps', Cfg G B lk Z' σ H' Γ' en' fps' → Live G J ds A → (∀ pins Z2 σ2 H2 Γ2 en2 fps2, Cfg G (rb H' Z' (L ++ lk) fps' pins) (L ++ lk) Z2 σ2 H2 Γ2 en2 fps2 → A Z2 H2) → R J H'
  | .exc c x => ∀ C dd H', XOk G B H' c x C dd → W (.ref C) (some dd) σ H'
  | .bad => False
def tI (G : GI) (W : WX) (lk Γ L Γ' : List Nat) (m : AM) : TIr := fun σ H R =>
  ∃ B Z en fps, Cfg G B lk Z σ H Γ en fps ∧ OutI G B W lk L Γ' σ R (m en)
def II (X : Cx) (G : GI) (W : WX) (lk Γ : List Nat) (tg e : Expr) (L Γ' : List Nat) (m : AM) : Prop := PI X tg e (tI G W lk Γ L Γ' m)
theorem PI.imp {X : Cx} {tg e : Expr} {t t' : TIr} (h : PI X tg e t) (i : ∀ σ H R, t' σ H R → t σ H R) : PI X tg e t' := ⟨fun pins s σ H R I q => h.run pins s σ H R I (i σ H R q)⟩
/-! ### a value walked -/
def iAny (K : PySem.W.Frag) (tl : TE) : TIr := fun σ H R => tl σ H fun x H1 => (∃ a, x = .ref a ∧ (∃ xs, SqL K H1 a xs) ∧ R (Itl K a) H1) ∨ (∃ a, x = .ref a ∧ (∃ xs, SqT K H1 a xs) ∧ R (Itt K a) H1) ∨ ∃ z, x = .str z ∧ R (Its z) H1
theorem pi_any {tg l : Expr} {tl : TE} (hl : PE X l tl) : PI X tg l (iAny X.K tl) := by
  refine ⟨fun pins s σ H R I h => ?_⟩
  refine thn (hl.run pins s σ H _ I h) fun v s1 ⟨x, H1, I1, r1, q1⟩ => ?_
  rcases q1 with ⟨a, e, ⟨xs, hq⟩, q⟩ | ⟨a, e, ⟨xs, hq⟩, q⟩ | ⟨z, e, q⟩
  · subst e
    cases r1
    obtain ⟨its, rv, p, hz⟩ := I1.list hq
    refine wpAny_pyIter_list p.isList ?_
    refine ⟨s1.heap.objs.size, [s1.heap.objs.size], _, _, H1, rfl, I1.kept (t' := s1.toks) fun b o e => Heap.get?_push_of_some _ e, turn_list a _, ⟨_, Heap.get?_push_size _ rfl, rfl, rfl⟩, fun b hb => ?_, q⟩
    have e : b = s1.heap.objs.size := by simpa using hb
    subst e
    exact I1.fpOk (Nat.le_refl _) (I1.hok.fresh (Nat.le_refl _))
  · subst e
    cases r1
    obtain ⟨its, rv, p, hz⟩ := I1.tuple hq
    refine wpAny_pyIter_tuple (show s1.heap.IsTuple a its.toArray from p) ?_
    refine ⟨s1.heap.objs.size, [s1.heap.objs.size], _, _, H1, rfl, I1.kept (t' := s1.toks) fun b o e => Heap.get?_push_of_some _ e, turn_tuple a _, ⟨_, Heap.get?_push_size _ rfl, rfl, rfl⟩, fun b hb => ?_, q⟩
    have e : b = s1.heap.objs.size := by simpa using hb
    subst e
    exact I1.fpOk (Nat.le_refl _) (I1.hok.fresh (Nat.le_refl _))
  · subst e
    obtain ⟨t, rfl⟩ := r1
    cases ha : z.cps.all (· < 128)
    · exact wpAny_pyIter_wide ha (pi_one (tk := s1.toks) I1 _ (turn_str _ z t "str_iterator" (.inr rfl)) ⟨_, Heap.get?_push_size _ rfl, rfl, rfl⟩ q)
    · exact wpAny_pyIter_ascii ha (pi_one (tk := s1.toks) I1 _ (turn_str _ z t "str_ascii_iterator" (.inl rfl)) ⟨_, Heap.get?_push_size _ rfl, rfl, rfl⟩ q)
def chars (z : Str) : List D := z.cps.toList.map fun c => .str ⟨#[c]⟩
def dItems : D → Option (List D)
  | .lst xs => some xs
  | .tup xs => some xs
  | .scr ns => some (ns.map .int)
  | .str z => some (chars z)
  | _ => none
theorem OwnL.get0 {vs : List V} {ds : List D} {i : Nat} {d : D} (h : OwnL G Z H 0 vs ds []) (e : ds[i]? = some d) : ∃ v, vs[i]? = some v ∧ Own G Z H 0 v d [] := by
  obtain ⟨v, fp, a, b, c⟩ := h.get e
  obtain rfl : fp = [] := List.sublist_nil.mp c
  exact ⟨v, a, b⟩
theorem OwnL.ex0 {vs : List V} {ds : List D} {i : Nat} (h : OwnL G Z H 0 vs ds []) (e : i < ds.length) : ∃ x, vs[i]? = some x := by
  have hl := h.len
  exact ⟨vs[i]'(by omega), List.getElem?_eq_getElem (by omega)⟩
theorem live_lst {a : Addr} {vs : List V} {ds : List D} (K : PySem.W.Frag) : Live G (Itl K a) ds fun Z H => H a = some (.lst vs) ∧ OwnL G Z H 0 vs ds [] where
  go := fun Z H i ⟨e, o⟩ hi => by
    obtain ⟨x, hx⟩ := o.ex0 hi
    exact ⟨vs, x, .inl (.of e), hx⟩
  stop := fun Z H i ⟨e, o⟩ hi => ⟨vs, .inl (.of e), by rw [o.len]; exact hi⟩
  yld := fun Z H i d x H' ⟨e, o⟩ hd ⟨e1, hx⟩ => by
    obtain ⟨v, h1, h2⟩ := o.get0 hd
    have q := hx vs (.inl (.of e))
    rw [h1] at q; cases q
    exact .inl ⟨e1, h2⟩
theorem live_tup {a : Addr} {vs : List V} {ds : List D} (K : PySem.W.Frag) : Live G (Itt K a) ds fun Z H => H a = some (.tup vs) ∧ OwnL G Z H 0 vs ds [] where
  go := fun Z H i ⟨e, o⟩ hi => by
    obtain ⟨x, hx⟩ := o.ex0 hi
    exact ⟨vs, x, .inl (.of e), hx⟩
  stop := fun Z H i ⟨e, o⟩ hi => ⟨vs, .inl (.of e), by rw [o.len]; exact hi⟩
  yld := fun Z H i d x H' ⟨e, o⟩ hd ⟨e1, hx⟩ => by
    obtain ⟨v, h1, h2⟩ := o.get0 hd
    have q := hx vs (.inl (.of e))
    rw [h1] at q; cases q
    exact .inl ⟨e1, h2⟩
theorem live_scr {K : PySem.W.Frag} {a : Addr} {ns : List Int} (hK : G.K = K) : Live G (Itl K a) (ns.map .int) fun Z H => ScrAt G.K H a ns where
  go := fun Z H i s hi => by
    have s := hK ▸ s.sq
    rw [List.length_map] at hi
    exact ⟨_, .int ns[i], s, by rw [List.getElem?_map, List.getElem?_eq_getElem hi]; rfl⟩
  stop := fun Z H i s hi => ⟨_, hK ▸ s.sq, by simpa using hi⟩
  yld := fun Z H i d x H' s hd ⟨e1, hx⟩ => by
    have q := hx _ (hK ▸ s.sq)
    rw [List.getElem?_map] at hd q
    cases e : ns[i]? with
    | none => rw [e] at hd; cases hd
    | some n =>
      rw [e] at hd q
      cases hd; cases q
      exact .inl ⟨e1, .int⟩
theorem live_str {z : Str} : Live G (Its z) (chars z) fun _ _ => True where
  go := fun Z H i _ hi => by
    show i < z.cps.size
    unfold chars at hi
    simpa using hi
  stop := fun Z H i _ hi => by
    show z.cps.size ≤ i
    unfold chars at hi
    simpa using hi
  yld := fun Z H i d x H' _ hd ⟨e1, c, hc, e2⟩ => by
    unfold chars at hd
    rw [List.getElem?_map, Array.getElem?_toList, hc] at hd
    cases hd
    exact .inl ⟨e1, e2 ▸ .str⟩
/-- a base with the names' pins given -/
theorem Cfg.rebaseP (C : Cfg G B lk Z σ H Γ en fps) (lk' : List Nat) (pins : List (Nat × V)) (hp : ∀ p ∈ pins, σ[p.1]? = some (some p.2)) : Cfg G (rb H Z lk' fps pins) lk' Z σ H Γ en fps where
  bok := ⟨fun a ⟨i, _, h⟩ => C.chg h, fun i a ⟨_, h⟩ => C.chg h, fun i a h => h.1, C.zt, fun a z ⟨i, _, h⟩ => C.nz i a h z, fun i a z ⟨_, h⟩ => C.nz i a h z⟩
  len := C.len
  rep := C.rep
  emp := C.emp
  nd := C.nd
  dis := C.dis
  nz := C.nz
  zt := C.zt
  keep := fun a o e _ => e
  newf := fun i a h => by
    by_cases hi : i ∈ lk'
    · exact .inr (.inl ⟨hi, h⟩)
    · exact .inl ⟨i, hi, h⟩
  lkd := fun i j a h ⟨_, h'⟩ => C.dis i j a h h'
  lks := fun i a h => .inr h.2
  zb := fun a z => z
  zn := fun a z => .inl z
  pin := hp
theorem cfg_pins {B : Bs} {pins : List (Nat × V)} (C : Cfg G B lk Z σ H Γ en fps) (hp : ∀ p ∈ pins, σ[p.1]? = some (some p.2)) : Cfg G ⟨B.H, B.Z, B.F, B.Lk, pins⟩ lk Z σ H Γ en fps :=
  ⟨⟨C.bok.fch, C.bok.lch, C.bok.lki, C.bok.zt, C.bok.zf, C.bok.zl⟩, C.len, C.rep, C.emp, C.nd, C.dis, C.nz, C.zt, C.keep, C.newf, C.lkd, C.lks, C.zb, C.zn, hp⟩
/-- what stands still, stands still at every later state; a list seen, too -/
theorem vw_later {pins : List (Nat × V)} {Z2 : Addr → Prop} {σ2 : St} {H2 : Hp} {en2 : En} {fps2 : Nat → List Addr} (C : Cfg G B lk Z σ H Γ en fps) (D2 : Cfg G (rb H Z (L ++ lk) fps pins) (L ++ lk) Z2 σ2 H2 Γ2 en2 fps2) (h : Vw G L Z H fps v d) : Vw G L Z2 H2 fps2 v d := by
  have D3 : Cfg G (rb H Z (L ++ lk) fps []) (L ++ lk) Z2 σ2 H2 Γ2 en2 fps2 := cfg_pins D2 fun _ h => nomatch h
  have C3 : Cfg G ⟨B.H, B.Z, B.F, B.Lk, []⟩ lk Z σ H Γ en fps := cfg_pins C fun _ h => nomatch h
  exact Vw.stay h C3 (fun i m => List.mem_append_right _ m) (fun i m => List.mem_append_left _ m) D3
def mIt (f : D → Option (List D)) (m : EM) : AM := fun en => match m en with
  | .ok d en' => match f d with
    | some ds => .ok ds en'
    | none => .bad
  | .exc c x => .exc c x
  | .bad => .bad
theorem ii_any {tg : Expr} (hK : G.K = X.K) (h : OI X G W lk Γ e (.v L) Γ' m) : II X G W lk Γ tg e L Γ' (mIt dItems m) := PI.imp (pi_any h) fun σ H R ⟨B, Z, en, fps, C, o⟩ => by
  refine ⟨B, Z, en, fps, C, ?_⟩
  unfold mIt at o
  cases e : m en with
  | bad => rw [e] at o; exact o
  | exc c x => rw [e] at o; exact o
  | ok d en' =>
    rw [e] at o
    dsimp only at o
    intro v Z' H' fps' C' h'
    cases ed : dItems d with
    | none => rw [ed] at o; exact o.elim
    | some ds =>
      rw [ed] at o
      unfold dItems at ed
      split at ed
      · rename_i xs
        cases ed
        obtain ⟨a, vs, e1, e2, e3⟩ := Vw.lst h'
        refine .inl ⟨a, e1, ⟨vs, .inl (.of e2)⟩, o _ (fun Z H => H a = some (.lst vs) ∧ OwnL G Z H 0 vs ds []) _ _ _ C' (live_lst _) fun pins Z2 σ2 H2 Γ2 en2 fps2 D2 => ?_⟩
        obtain ⟨s1, s2, s3⟩ := stay_all (L := L) (cfg_pins C' (pins := []) fun _ h => nomatch h) (fun i m => List.mem_append_right _ m) (fun i m => List.mem_append_left _ m) (cfg_pins D2 (pins := []) fun _ h => nomatch h)
        have zz : ∀ a, Z' a → Z2 a ∧ ∀ o, H' a = some o → H2 a = some o := fun a z => ⟨D2.zb a z, (s2 a (.inl z)).2⟩
        refine ⟨?_, ownL_keep s1 zz e3 fun _ h => nomatch h⟩
        rcases h' with h' | ⟨b, ws, es, f1, f2, f3, h', i, hi, ha⟩
        · subst e1
          generalize hx : D.lst ds = dx at h'
          generalize hv : V.ref a = vx at h'
          cases h' with
          | lst z e h => cases hv; exact (zz _ z).2 _ e2
          | _ => cases hx
        · rw [e1] at f1
          cases f1
          exact (s2 a (.inr ⟨i, hi, ha⟩)).2 _ e2
      · rename_i xs
        cases ed
        have q : ∃ a vs, v = .ref a ∧ H' a = some (.tup vs) ∧ OwnL G Z' H' 0 vs ds [] := by
          rcases h' with h' | ⟨b, ws, es, f1, f2, f3, h', i, hi, ha⟩
          · exact own_tup h'
          · cases f2
        obtain ⟨a, vs, e1, e2, e3⟩ := q
        refine .inr (.inl ⟨a, e1, ⟨vs, .inl (.of e2)⟩, o _ (fun Z H => H a = some (.tup vs) ∧ OwnL G Z H 0 vs ds []) _ _ _ C' (live_tup _) fun pins Z2 σ2 H2 Γ2 en2 fps2 D2 => ?_⟩)
        obtain ⟨s1, s2, s3⟩ := stay_all (L := L) (cfg_pins C' (pins := []) fun _ h => nomatch h) (fun i m => List.mem_append_right _ m) (fun i m => List.mem_append_left _ m) (cfg_pins D2 (pins := []) fun _ h => nomatch h)
        exact ⟨s1 _ _ e2 fun z => z, ownL_keep s1 (fun a z => ⟨D2.zb a z, (s2 a (.inl z)).2⟩) e3 fun _ h => nomatch h⟩
      · rename_i ns
        cases ed
        obtain ⟨_, _, _, o3⟩ := Md.any (md := .v L) (B := B) h'
        obtain ⟨p, rfl, s⟩ := own_scr o3
        refine .inl ⟨p, rfl, ⟨_, hK ▸ s.sq⟩, o _ _ _ _ _ C' (live_scr hK) fun pins Z2 σ2 H2 Γ2 en2 fps2 D2 => ?_⟩
        rcases s with ⟨o, e⟩ | e
        · exact .inl ⟨o, D2.stayI _ _ e fun z => z⟩
        · exact .inr e
      · rename_i z
        cases ed
        obtain ⟨_, _, _, o3⟩ := Md.any (md := .v L) (B := B) h'
        exact .inr (.inr ⟨z, own_str o3, o _ (fun _ _ => True) _ _ _ C' live_str fun _ _ _ _ _ _ _ _ => trivial⟩)
      · cases ed
/-! ### range -/
def rngD (lo : Int) (n : Nat) : List D := (List.range n).map fun (i : Nat) => D.int (lo + (i : Int))
theorem live_rng {lo : Int} {n : Nat} : Live G (Itr lo n) (rngD lo n) fun _ _ => True where
  go := fun Z H i _ hi => by
    show i < n
    unfold rngD at hi
    simpa using hi
  stop := fun Z H i _ hi => by
    show n ≤ i
    unfold rngD at hi
    simpa using hi
  yld := fun Z H i d x H' _ hd ⟨e1, e2⟩ => by
    unfold rngD at hd
    rw [List.getElem?_map] at hd
    cases e : (List.range n)[i]? with
    | none => rw [e] at hd; cases hd
    | some j =>
      rw [e] at hd
      cases hd
      have : j = i := by
        rw [List.getElem?_eq_some_iff] at e
        obtain ⟨h, e⟩ := e
        simpa using e.symm
      subst this
      exact .inl ⟨e1, e2 ▸ .int⟩
def rngOk (i : Int) : Bool := decide (-1000000 ≤ i ∧ i ≤ 1000000)
def mRng1 (m : EM) : AM := fun en => match m en with
  | .ok (.int j) en' => if rngOk j then .ok (rngD 0 j.toNat) en' else .bad
  | .ok _ _ => .bad
  | .exc c x => .exc c x
  | .bad => .bad
theorem ii_rng1 {tg : Expr} {md : Md} {p : Pos} (hg : Gl X "range") (hm : X.mg "range" = none) (ha : OI X G W lk Γ a md Γ' m) (he : starEach (a :: []) X.env = (false, eval a X.env) :: starEach [] X.env := by rfl) (hs : starEach [a] X.env = [(false, eval a X.env)] := by rfl) :
    II X G W lk Γ tg (.Call (.Name "range" p) [a] [] pos) [] Γ' (mRng1 m) := PI.imp (pi_range1 hg hm (pa_cons ha pa_nil he) hs) fun σ H R ⟨B, Z, en, fps, C, o⟩ => by
  refine ⟨B, Z, en, fps, C, ?_⟩
  unfold mRng1 at o
  cases e : m en with
  | bad => rw [e] at o; exact o
  | exc c x => rw [e] at o; exact o
  | ok d en' =>
    rw [e] at o
    cases d with
    | int j =>
      dsimp only at o
      split at o
      · rename_i hr
        have hr : -1000000 ≤ j ∧ j ≤ 1000000 := of_decide_eq_true hr
        intro v Z' H' fps' C' h'
        obtain ⟨_, _, _, q⟩ := Md.any h'
        have q := own_int q
        subst q
        exact ⟨j, rfl, by omega, by omega, o _ (fun _ _ => True) _ _ _ C' live_rng fun _ _ _ _ _ _ _ _ => trivial⟩
      · exact o.elim
    | _ => exact o.elim
def mRng2 (ma mb : EM) : AM := fun en => match mm2 ma mb en with
  | .ok (.int i) (.int j) en' => if rngOk i && rngOk j then .ok (rngD i (j - i).toNat) en' else .bad
  | .ok _ _ _ => .bad
  | .exc c x => .exc c x
  | .bad => .bad
theorem ii_rng2 {tg : Expr} {md1 md2 : Md} {p : Pos} (hg : Gl X "range") (hm : X.mg "range" = none) (ha : OI X G W lk Γ a md1 Γ1 ma) (hb : OI X G W (md1.L ++ lk) Γ1 b md2 Γ2 mb)
    (he : starEach (a :: [b]) X.env = (false, eval a X.env) :: starEach [b] X.env := by rfl) (he2 : starEach [b] X.env = (false, eval b X.env) :: starEach [] X.env := by rfl) (hs : starEach [a, b] X.env = [(false, eval a X.env), (false, eval b X.env)] := by rfl) (hs2 : starEach [b] X.env = [(false, eval b X.env)] := by rfl) :
    II X G W lk Γ tg (.Call (.Name "range" p) [a, b] [] pos) [] Γ2 (mRng2 ma mb) := PI.imp (pi_range2 hg hm (pa_cons ha (pa_cons hb pa_nil he2) he) hs hs2) fun σ H R ⟨B, Z, en, fps, C, o⟩ => run2 C <| by
  unfold mRng2 at o
  cases e : mm2 ma mb en with
  | bad => rw [e] at o; exact o
  | exc c x => rw [e] at o; exact o
  | ok d1 d2 en' =>
    rw [e] at o
    intro v1 v2 Z' H' fps' C' h1 h2
    cases d1 with
    | int i =>
      cases d2 with
      | int j =>
        dsimp only at o
        split at o
        · rename_i hr
          rw [Bool.and_eq_true] at hr
          have r1 : -1000000 ≤ i ∧ i ≤ 1000000 := of_decide_eq_true hr.1
          have r2 : -1000000 ≤ j ∧ j ≤ 1000000 := of_decide_eq_true hr.2
          obtain ⟨_, _, _, q1⟩ := Md.any h1
          obtain ⟨_, _, _, q2⟩ := Md.any h2
          have q1 := own_int q1
          have q2 := own_int q2
          subst q1 q2
          exact ⟨i, j, rfl, ⟨by omega, by omega, by omega, by omega⟩, o _ (fun _ _ => True) _ _ _ C' live_rng fun _ _ _ _ _ _ _ _ => trivial⟩
        · exact o.elim
      | _ => exact o.elim
    | _ => exact o.elim
/-! ### for -/
def loopM (g : D → En → Option En) (mb : SM) : List D → SM
  | [] => fun en => .nx en
  | d :: ds => fun en => match g d en with
    | some en1 => match mb en1 with
      | .nx en2 => loopM g mb ds en2
      | r => r
    | none => .bad
def mFor (mi : AM) (g : D → En → Option En) (mb : SM) : SM := fun en => match mi en with
  | .ok ds en1 => loopM g mb ds en1
  | .exc c x => .exc c x
  | .bad => .bad
theorem si_for {tg iter : Expr} {body : List Stmt} {ts : List Nat} {mi : AM} {g : D → En → Option En} {mb : SM} (hp : PassesOwn (model X.prog X.w) X.A X.env X.xe) (hc : X.calm = true) (hW : WFree W) (hi : II X G W lk Γ tg iter L Γ1 mi)
    (hg : TgI X G (L ++ lk) ro Γ1 tg 0 Γb ts g) (hb : SsI X G W (L ++ lk) ro Γb body Γ1 mb) (hs : ∀ x, foldedSetIterable iter X.env x = pure x := by intro _; rfl) :
    SI X G W lk ro Γ (.For tg iter body [] pos) Γ1 (mFor mi g mb) := PS.imp (ps_for hp hc hi hg hb hs) fun D σ H ⟨B, Z, en, fps, P, C, o⟩ => by
  refine ⟨B, Z, en, fps, C, ?_⟩
  unfold mFor at o
  cases e : mi en with
  | bad => rw [e] at o; exact o
  | exc c x => rw [e] at o; exact fun Cc dd H' y => o Cc dd σ H' y
  | ok ds en1 =>
    rw [e] at o
    dsimp only at o
    intro J A Z1 H1 fps1 C1 Lv st
    have hl : ∀ i ∈ lk, i ∈ L ++ lk := fun i m => List.mem_append_right _ m
    have P1 : PinIn (rb H1 Z1 (L ++ lk) fps1 B.pins) ro := P
    refine ⟨fun i m σ' H' => ∃ Z' en' fps', i + m = ds.length ∧ Cfg G (rb H1 Z1 (L ++ lk) fps1 B.pins) (L ++ lk) Z' σ' H' Γ1 en' fps' ∧ OutS G (rb H1 Z1 (L ++ lk) fps1 B.pins) W (L ++ lk) ro Γ1 D (loopM g mb (ds.drop i) en'), ⟨ds.length, Z1, en1, fps1, by omega, C1.rebase _, o.comp C1 hl⟩, ?_⟩
    rintro i m σ2 H2 ⟨Z2, en2, fps2, em, C2, o2⟩
    have a := st _ _ _ _ _ _ _ C2
    by_cases hi : i < ds.length
    · refine .inr ⟨Lv.go _ _ _ a hi, fun σ' H' => ∃ m', m' < m ∧ ∃ Z' en' fps', (i + 1) + m' = ds.length ∧ Cfg G (rb H1 Z1 (L ++ lk) fps1 B.pins) (L ++ lk) Z' σ' H' Γ1 en' fps' ∧ OutS G (rb H1 Z1 (L ++ lk) fps1 B.pins) W (L ++ lk) ro Γ1 D (loopM g mb (ds.drop (i + 1)) en'), fun σ' H' h => h, fun x H3 y => ?_⟩
      rw [List.drop_eq_getElem_cons hi] at o2
      obtain ⟨C3, h3⟩ := (Lv.yld _ _ _ _ _ _ a (List.getElem?_eq_getElem hi) y).cfg C2
      refine ⟨_, Z2, en2, fps2, ds[i], [], P1, C3, h3, ?_⟩
      unfold loopM at o2
      cases eg : g ds[i] en2 with
      | none => rw [eg] at o2; exact o2.elim
      | some en3 =>
        rw [eg] at o2
        dsimp only at o2
        intro σ4 Z4 H4 fps4 C4 _
        refine ⟨_, Z4, en3, fps4, P1, C4, ?_⟩
        cases eb : mb en3 with
        | bad => rw [eb] at o2; exact o2
        | exc c x => rw [eb] at o2; exact o2
        | rt d en' => rw [eb] at o2; exact o2
        | nx en5 =>
          rw [eb] at o2
          exact fun σ' Z' H' fps' C' => ⟨m - 1, by omega, Z', en5, fps', by omega, C', o2⟩
    · have hd : ds.drop i = [] := List.drop_eq_nil_of_le (by omega)
      rw [hd] at o2
      exact .inl ⟨Lv.stop _ _ _ a (by omega), o2 _ _ _ _ C2⟩
/-! ### while -/
def loopW (mc : EM) (mb : SM) : Nat → SM
  | 0 => fun _ => .bad
  | n + 1 => fun en => match mc en with
    | .ok (.bl true) en1 => match mb en1 with
      | .nx en2 => loopW mc mb n en2
      | r => r
    | .ok (.bl false) en1 => .nx en1
    | .ok _ _ => .bad
    | .exc c x => .exc c x
    | .bad => .bad
theorem si_while {c : Expr} {body : List Stmt} {mc : EM} {mb : SM} (n : Nat) (hp : PassesOwn (model X.prog X.w) X.A X.env X.xe) (hW : WFree W) (hc : TI X G W lk Γ c Γ1 mc) (hb : SsI X G W lk ro Γ1 body Γ mb) (hh : Γ = Γ1 := by rfl) :
    SI X G W lk ro Γ (.While c body [] pos) Γ (loopW mc mb n) := PS.imp (ps_while hp hc hb) fun D σ H ⟨B, Z, en, fps, P, C, o⟩ => by
  subst hh
  refine ⟨fun m σ' H' => ∃ Z' en' fps', Cfg G B lk Z' σ' H' Γ en' fps' ∧ OutS G B W lk ro Γ D (loopW mc mb m en'), ⟨n, Z, en, fps, C, o⟩, ?_⟩
  rintro m σ2 H2 ⟨Z2, en2, fps2, C2, o2⟩
  refine ⟨B, Z2, en2, fps2, C2, ?_⟩
  cases m with
  | zero => exact o2.elim
  | succ m =>
    unfold loopW at o2
    cases e : mc en2 with
    | bad => rw [e] at o2; exact o2
    | exc c x => rw [e] at o2; exact fun Cc dd H' y => o2 Cc dd σ2 H' y
    | ok d en3 =>
      rw [e] at o2
      cases d with
      | bl c =>
        intro Z3 H3 fps3 C3
        cases c with
        | true =>
          rw [if_pos rfl]
          refine ⟨fun σ' H' => ∃ m', m' < m + 1 ∧ ∃ Z' en' fps', Cfg G B lk Z' σ' H' Γ en' fps' ∧ OutS G B W lk ro Γ D (loopW mc mb m' en'), fun σ' H' h => h, B, Z3, en3, fps3, P, C3, ?_⟩
          dsimp only at o2
          cases eb : mb en3 with
          | bad => rw [eb] at o2; exact o2
          | exc c x => rw [eb] at o2; exact o2
          | rt d en' => rw [eb] at o2; exact o2
          | nx en5 =>
            rw [eb] at o2
            exact fun σ' Z' H' fps' C' => ⟨m, Nat.lt_succ_self _, Z', en5, fps', C', o2⟩
        | false =>
          rw [if_neg Bool.false_ne_true]
          exact o2 _ _ _ _ C3
      | _ => exact o2.elim
end
end Im
/-! Comprehensions. -/
namespace Im
open PySem PySem.Spec PyProof.Rows L2
section
variable {G : GI} {B B' : Bs} {W : WX} {lk lk' L L' La Lb : List Nat} {Z Z' : Addr → Prop} {σ σ' : St} {H H' : Hp} {Γ Γ' Γ1 Γ2 Γ3 Γb Γt : List Nat} {en en' : En} {fps fps' : Nat → List Addr} {κ κ' : Nat} {κs : List Nat} {v : V} {d : D} {ro : RO}
variable {X : Cx} {pos : Pos} {m ma mb : EM} {e a b : Expr}
/-- an untracked object changes -/
theorem upd_at {p : Addr} {o u : HO} {a : Addr} (h : H a = some u) (n : a ≠ p) : upd H p o a = some u := by rw [upd_ne n]; exact h
theorem Cfg.over {p : Addr} {o o1 : HO} (C : Cfg G B lk Z σ H Γ en fps) (hp : H p = some o1) (hc : Chg o1) (hz : ¬ Z p) (hf : ∀ i, p ∉ fps i) (hb : B.H p = none) : Cfg G B lk Z σ (upd H p o) Γ en fps where
  bok := C.bok
  len := C.len
  rep := fun i d e => by
    obtain ⟨v, h1, h2⟩ := C.rep i d e
    exact ⟨v, h1, own_keep (fun a u q n => upd_at q fun z => by subst z; rw [hp] at q; cases q; exact n hc) (fun a z => ⟨z, fun u q => upd_at q fun (y : a = p) => hz (y ▸ z)⟩) h2 fun a m u q => upd_at q fun y => hf i (y ▸ m)⟩
  emp := C.emp
  nd := C.nd
  dis := C.dis
  nz := C.nz
  zt := fun a z => by
    obtain ⟨u, q⟩ := C.zt a z
    exact ⟨u, upd_at q fun (y : a = p) => hz (y ▸ z)⟩
  keep := fun a u e n => upd_at (C.keep a u e n) fun y => by subst y; rw [hb] at e; cases e
  newf := C.newf
  lkd := C.lkd
  lks := C.lks
  zb := C.zb
  zn := C.zn
  pin := C.pin
theorem HeldL.over {p : Addr} {o o1 : HO} {vs : List V} {ds : List D} {fp : List Addr} (h : HeldL G B [] Z H fps κ vs ds fp) (hp : H p = some o1) (hc : Chg o1) (hz : ¬ Z p) (hf : p ∉ fp) : HeldL G B [] Z (upd H p o) fps κ vs ds fp :=
  ⟨ownL_keep (fun a u q n => upd_at q fun z => by subst z; rw [hp] at q; cases q; exact n hc) (fun a z => ⟨z, fun u q => upd_at q fun (y : a = p) => hz (y ▸ Zl_nil.mp z)⟩) h.own fun a m u q => upd_at q fun y => hf (y ▸ m), h.nd, h.nz, h.ds, h.nw⟩
theorem Cfg.wipe {vs : List Nat} (C : Cfg G B lk Z σ H Γ en fps) (he : ∀ i ∈ vs, ∀ d, en[i]? ≠ some (some d)) (hp : B.pins = []) : Cfg G B lk Z (L2.wipe σ vs) H Γ en fps :=
  { C with
    len := by rw [wipe_length]; exact C.len
    rep := fun i d e => by
      obtain ⟨v, h1, h2⟩ := C.rep i d e
      exact ⟨v, by rw [wipe_out fun m => he i m d e]; exact h1, h2⟩
    pin := fun p m => by rw [hp] at m; cases m }
theorem Cfg.unwipe {vs : List Nat} (C : Cfg G B lk Z (L2.wipe σ vs) H Γ en fps) (hp : B.pins = []) : Cfg G B lk Z σ H Γ en fps :=
  { C with
    len := by rw [← wipe_length σ vs]; exact C.len
    rep := fun i d e => by
      obtain ⟨v, h1, h2⟩ := C.rep i d e
      exact ⟨v, (wipe_some h1).1, h2⟩
    pin := fun p m => by rw [hp] at m; cases m }
def eqOff (vs Γ Γ' : List Nat) : Bool := Γ.length == Γ'.length && (List.range Γ.length).all fun i => vs.contains i || Γ.getD i 0 == Γ'.getD i 0
theorem eqOff_of {vs Γ Γ' : List Nat} (h : eqOff vs Γ Γ' = true) : ∀ i, i ∉ vs → Γ.getD i 0 = Γ'.getD i 0 := fun i hi => by
  unfold eqOff at h
  rw [Bool.and_eq_true, List.all_eq_true] at h
  have hl : Γ.length = Γ'.length := by simpa using h.1
  by_cases hb : i < Γ.length
  · have q := h.2 i (List.mem_range.mpr hb)
    rw [Bool.or_eq_true] at q
    rcases q with q | q
    · exact absurd (by simpa using q) hi
    · simpa using q
  · rw [List.getD_eq_getElem?_getD, List.getD_eq_getElem?_getD, List.getElem?_eq_none (by omega), List.getElem?_eq_none (by omega)]
theorem Cfg.reΓ {vs : List Nat} (C : Cfg G B lk Z σ H Γ en fps) (he : ∀ i ∈ vs, ∀ d, en[i]? ≠ some (some d)) (h : eqOff vs Γ Γ' = true) : Cfg G B lk Z σ H Γ' en fps :=
  { C with
    rep := fun i d e => by
      obtain ⟨v, h1, h2⟩ := C.rep i d e
      rw [← eqOff_of h i fun m => he i m d e]
      exact ⟨v, h1, h2⟩ }
theorem wipe_ext {σ σ' : St} {ts vs : List Nat} (h : Off ts σ σ') (hs : ∀ i ∈ ts, i ∈ vs) (_u : True) : L2.wipe σ' vs = L2.wipe σ vs := by
  apply List.ext_getElem?
  intro i
  by_cases hi : i ∈ vs
  · have key : ∀ (τ : St) (vs : List Nat), i ∈ vs → (L2.wipe τ vs)[i]? = if i < τ.length then some none else none := by
      intro τ vs
      induction vs with
      | nil => intro h; cases h
      | cons j vs ih =>
        intro h
        show ((L2.wipe τ vs).set j none)[i]? = _
        by_cases e : j = i
        · subst e
          by_cases hl : j < τ.length
          · rw [List.getElem?_set_self (by rw [wipe_length]; exact hl), if_pos hl]
          · rw [List.getElem?_eq_none (by rw [List.length_set, wipe_length]; omega), if_neg hl]
        · rw [List.getElem?_set_ne e]
          rcases List.mem_cons.mp h with h | h
          · exact absurd h.symm e
          · exact ih h
    rw [key σ' vs hi, key σ vs hi, h.1]
  · rw [wipe_out hi, wipe_out hi]
    exact h.2 i fun m => hi (hs i m)
theorem Cfg.fewer {vs : List V} {ds : List D} {fp : List Addr} (h : HeldL G B L Z H fps κ vs ds fp) (hL : L = []) (s : ∀ i a, a ∈ fps' i → a ∈ fps i) : HeldL G B L Z H fps' κ vs ds fp := by
  subst hL
  exact ⟨h.own.monoZ fun a z => .inl (Zl_nil.mp z), h.nd, h.nz, fun a m i q => h.ds a m i (s i a q), h.nw⟩
/-- nothing may be raised -/
def WN : WX := fun _ _ _ _ => False
def TtI (X : Cx) (G : GI) (W : WX) (lk Γ : List Nat) (ifs : List Expr) (Γ' : List Nat) (m : EM) : Prop := PTs X ifs (tT G W lk Γ Γ' m)
theorem PTs.imp {X : Cx} {ifs : List Expr} {t t' : TT} (h : PTs X ifs t) (i : ∀ σ H Q, t' σ H Q → t σ H Q) : PTs X ifs t' := ⟨fun pins s σ H Q I q => h.run pins s σ H Q I (i σ H Q q)⟩
theorem tt_nil : TtI X G W lk Γ [] Γ (mC (.bl true)) := PTs.imp pts_nil fun σ H Q ⟨B, Z, en, fps, C, o⟩ => o Z H fps C
theorem tt_one {c : Expr} (h : TI X G W lk Γ c Γ' m) : TtI X G W lk Γ [c] Γ' m := pts_one h
def compM (g : D → En → Option En) (mt me : EM) (vs : List Nat) : List D → List D → En → Res
  | [], acc, en => .ok (.lst acc) en
  | d :: ds, acc, en => match g d en with
    | some en1 => match mt en1 with
      | .ok (.bl true) en2 => match me en2 with
        | .ok y en3 => if acc.length < lim then compM g mt me vs ds (acc ++ [y]) (killE vs en3) else .bad
        | _ => .bad
      | .ok (.bl false) en2 => compM g mt me vs ds acc (killE vs en2)
      | _ => .bad
    | none => .bad
def mLc (mi : AM) (g : D → En → Option En) (mt me : EM) (vs : List Nat) : EM := fun en => match mi en with
  | .ok ds en1 => compM g mt me vs ds [] (killE vs en1)
  | .exc c x => .exc c x
  | .bad => .bad
def ro0 : RO := ⟨[], 0⟩
theorem lc_run {vs ts : List Nat} {mi : AM} {g : D → En → Option En} {mt me : EM} {Q : VK}
    (hv : ∀ i ∈ vs, i ∉ L ++ lk) (hts : ∀ i ∈ ts, i ∈ vs) (h1 : eqOff vs Γt Γ1 = true) (h2 : eqOff vs Γ2 Γ1 = true)
    (C : Cfg G B lk Z σ H Γ en fps) (o : OutE G B W lk (κ + 1) [] Γ1 σ Q (mLc mi g mt me vs en)) :
    tLc (tI G W lk Γ L Γ1 mi) (tG G (L ++ lk) ro0 Γ1 0 Γb ts g) (tT G WN (L ++ lk) Γb Γt mt) (tE G WN (L ++ lk) Γt κ [] Γ2 me) vs σ H Q := by
  refine ⟨B, Z, en, fps, C, ?_⟩
  unfold mLc at o
  cases e : mi en with
  | bad => rw [e] at o; exact o
  | exc c x => rw [e] at o; exact o
  | ok ds en1 =>
    rw [e] at o
    dsimp only at o
    intro J A Z1 H1 fps1 C1 Lv st p hp
    have hl : ∀ i ∈ lk, i ∈ L ++ lk := fun i m => List.mem_append_right _ m
    -- the base of the whole walk
    generalize hB1 : rb H1 Z1 (L ++ lk) fps1 [] = B1
    have C1' : Cfg G B1 (L ++ lk) Z1 σ H1 Γ1 en1 fps1 := hB1 ▸ C1.rebaseP _ [] fun _ h => nomatch h
    have pB1 : B1.pins = [] := by rw [← hB1]; rfl
    have hB1H : B1.H = H1 := by rw [← hB1]; rfl
    have hbp : B1.H p = none := by rw [hB1H]; exact hp
    -- out again
    have back : ∀ {Z' : Addr → Prop} {H' : Hp} {en' : En} {fps' : Nat → List Addr}, Cfg G B1 (L ++ lk) Z' (L2.wipe σ vs) H' Γ1 en' fps' → Cfg G B lk Z' σ H' Γ1 en' fps' := fun {Z' H' en' fps'} D => by
      have D1 := D.unwipe pB1
      rw [← hB1] at D1
      have E := Cfg.comp (cfg_pins C1 (pins := []) fun _ h => nomatch h) hl D1
      have E2 := cfg_pins (pins := B.pins) E fun q m => C1.pin q m
      exact E2
    refine ⟨fun i m H' => ∃ Z' en' fps' acc dacc fp, i + m = ds.length ∧ Cfg G B1 (L ++ lk) Z' (L2.wipe σ vs) H' Γ1 en' fps' ∧ H' p = some (.lst acc) ∧ HeldL G B1 [] Z' H' fps' κ acc dacc fp ∧ p ∉ fp ∧ ¬ Z' p ∧ (∀ i, p ∉ fps' i) ∧ (∀ i ∈ vs, ∀ d, en'[i]? ≠ some (some d)) ∧ OutE G B W lk (κ + 1) [] Γ1 σ Q (compM g mt me vs (ds.drop i) dacc en'), ?_, ?_⟩
    · obtain ⟨f0, C2, sb⟩ := C1'.killS (is := vs) hv
      have C3 := (C2.wipe (fun i m d => killE_none m) pB1).grow (o := .lst []) hp
      refine ⟨ds.length, Z1, killE vs en1, f0, [], [], [], by omega, C3, upd_same, ⟨.nil, List.nodup_nil, (fun _ h => nomatch h), (fun _ h => nomatch h), (fun _ h => nomatch h)⟩, (fun h => nomatch h), fun z => ?_, fun i m => ?_, fun i m d => killE_none m, o⟩
      · obtain ⟨u, q⟩ := C1.zt p z
        rw [hp] at q; cases q
      · obtain ⟨u, q, _⟩ := C1.chg (sb i p m)
        rw [hp] at q; cases q
    · rintro i m H2 ⟨Z2, en2, fps2, acc, dacc, fp, em, C2, hD, hh, pfp, pZ, pf, env, o2⟩
      have hA : A Z2 H2 := by
        have C2 := C2
        rw [← hB1] at C2
        exact st _ _ _ _ _ _ _ C2
      by_cases hi : i < ds.length
      · refine .inr ⟨Lv.go _ _ _ hA hi, fun H' => ∃ m', m' < m ∧ ∃ Z' en' fps' acc dacc fp, (i + 1) + m' = ds.length ∧ Cfg G B1 (L ++ lk) Z' (L2.wipe σ vs) H' Γ1 en' fps' ∧ H' p = some (.lst acc) ∧ HeldL G B1 [] Z' H' fps' κ acc dacc fp ∧ p ∉ fp ∧ ¬ Z' p ∧ (∀ i, p ∉ fps' i) ∧ (∀ i ∈ vs, ∀ d, en'[i]? ≠ some (some d)) ∧ OutE G B W lk (κ + 1) [] Γ1 σ Q (compM g mt me vs (ds.drop (i + 1)) dacc en'), fun H' h => h, fun x H3 y => ?_⟩
        rw [List.drop_eq_getElem_cons hi] at o2
        have fr := Lv.yld _ _ _ _ _ _ hA (List.getElem?_eq_getElem hi) y
        obtain ⟨C3, h3⟩ := fr.cfg C2
        have g3 : HeldL G B1 [] Z2 H3 fps2 κ acc dacc fp ∧ H3 p = some (.lst acc) := by
          rcases fr with ⟨rfl, _⟩ | ⟨T, ws, dv, _, hT, rfl, _, _⟩
          · exact ⟨hh, hD⟩
          · exact ⟨hh.grow hT, upd_keep hT _ _ hD⟩
        obtain ⟨hh3, hD3⟩ := g3
        have C3b : Cfg G (rb H3 Z2 (L ++ lk) fps2 B1.pins) (L ++ lk) Z2 (L2.wipe σ vs) H3 Γ1 en2 fps2 := C3.rebase _
        have h3b : Held G (rb H3 Z2 (L ++ lk) fps2 B1.pins) [] Z2 H3 fps2 0 x ds[i] [] := ⟨h3.own, h3.nd, h3.nz, h3.ds, (fun _ h => nomatch h)⟩
        refine ⟨_, Z2, en2, fps2, ds[i], [], fun q m => ?_, C3b, h3b, ?_⟩
        · have m : q ∈ B1.pins := m
          rw [pB1] at m; cases m
        unfold compM at o2
        cases eg : g ds[i] en2 with
        | none => rw [eg] at o2; exact o2.elim
        | some en3 =>
          rw [eg] at o2
          dsimp only at o2
          intro σ4 Z4 H4 fps4 C4 off
          have hw : L2.wipe σ4 vs = L2.wipe σ vs := by
            rw [wipe_ext (vs := vs) off hts trivial]
            exact (wipe_ext (vs := vs) (ts := vs) (σ := σ) ⟨wipe_length _ _, fun j hj => wipe_out hj⟩ (fun _ h => h) trivial)
          refine ⟨hw, _, Z4, en3, fps4, C4, ?_⟩
          -- what is untracked stays so
          have stays : ∀ {Z' : Addr → Prop} {H' : Hp} {Γ' : List Nat} {en' : En} {fps' : Nat → List Addr}, Cfg G (rb H3 Z2 (L ++ lk) fps2 B1.pins) (L ++ lk) Z' σ4 H' Γ' en' fps' → H' p = some (.lst acc) ∧ ¬ Z' p ∧ (∀ i, p ∉ fps' i) ∧ HeldL G B1 [] Z' H' fps' κ acc dacc fp := fun {Z' H' Γ' en' fps'} D => by
            refine ⟨D.keep p _ hD3 fun ⟨j, _, q⟩ => pf j q, fun z => ?_, fun j q => ?_, hh3.stay C3 (fun _ h => h) (fun _ h => nomatch h) D⟩
            · rcases D.zn p z with q | ⟨j, _, q⟩ | ⟨j, _, q⟩ | q
              · exact pZ q
              · exact pf j q
              · exact pf j q
              · have q : H3 p = none := q
                rw [hD3] at q; cases q
            · rcases D.newf j p q with ⟨l, _, q⟩ | ⟨_, q⟩ | q
              · exact pf l q
              · exact pf j q
              · have q : H3 p = none := q
                rw [hD3] at q; cases q
          cases et : mt en3 with
          | bad => rw [et] at o2; exact o2
          | exc c x => rw [et] at o2; exact o2.elim
          | ok dt en5 =>
            rw [et] at o2
            cases dt with
            | bl c =>
              intro Z5 H5 fps5 C5
              cases c with
              | false =>
                rw [if_neg Bool.false_ne_true]
                obtain ⟨a1, a2, a3, a4⟩ := stays C5
                obtain ⟨f6, C6, sb⟩ := C5.killS (is := vs) hv
                have C7 := (C6.wipe (fun i m d => killE_none m) (by rw [← pB1]; rfl)).reΓ (fun i m d => killE_none m) h1
                rw [hw] at C7
                exact ⟨m - 1, by omega, Z5, killE vs en5, f6, acc, dacc, fp, by omega, C3.comp (fun _ h => h) C7, a1, Cfg.fewer a4 rfl sb, pfp, a2, fun i q => a3 i (sb i p q), fun i m d => killE_none m, o2⟩
              | true =>
                rw [if_pos rfl]
                refine ⟨_, Z5, en5, fps5, C5, ?_⟩
                dsimp only at o2
                cases ee : me en5 with
                | bad => rw [ee] at o2; exact o2
                | exc c x => rw [ee] at o2; exact o2.elim
                | ok dy en7 =>
                  rw [ee] at o2
                  dsimp only at o2
                  intro yv Z7 H7 fps7 fp7 C7 h7
                  obtain ⟨a1, a2, a3, a4⟩ := stays C7
                  split at o2
                  · rename_i hlen
                    refine ⟨acc, a1, ?_, ?_⟩
                    · rw [a4.own.len]; exact Nat.lt_of_lt_of_le hlen (by decide)
                    have pfp7 : p ∉ fp7 := fun q => by
                      rcases h7.nw p q with ⟨j, _, z⟩ | z
                      · exact pf j z
                      · have z : H3 p = none := z
                        rw [hD3] at z; cases z
                    have ap := held_apart (lk' := L ++ lk) (fps := fps2) (B := B1) (fp' := fp7) C3 hh3.own.chg hh3.ds h7.nw
                    have C7c := C3.comp (fun _ h => h) C7
                    have h7c := Held.comp C3 (fun _ h => h) h7
                    have hL : HeldL G B1 [] Z7 H7 fps7 κ (acc ++ [yv]) (dacc ++ [dy]) (fp ++ fp7) := by
                      refine ⟨?_, List.nodup_append.mpr ⟨a4.nd, h7c.nd, fun x hx y hy e => ap x hx (e ▸ hy)⟩, fun a m => ?_, fun a m => ?_, fun a m => ?_⟩
                      · have q : OwnL G (Zl Z7 [] fps7) H7 κ [yv] [dy] fp7 := by
                          have q := OwnL.cons h7c.own (OwnL.nil (G := G) (Z := Zl Z7 [] fps7) (H := H7) (k := κ))
                          rwa [List.append_nil] at q
                        exact a4.own.append q
                      all_goals rcases List.mem_append.mp m with m | m
                      · exact a4.nz a m
                      · exact h7c.nz a m
                      · exact a4.ds a m
                      · exact h7c.ds a m
                      · exact a4.nw a m
                      · exact h7c.nw a m
                    have pn : p ∉ fp ++ fp7 := fun q => (List.mem_append.mp q).elim pfp pfp7
                    have hL2 := hL.over (o := .lst (acc ++ [yv])) a1 trivial a2 pn
                    have C8 := C7c.over (o := .lst (acc ++ [yv])) a1 trivial a2 a3 hbp
                    obtain ⟨f6, C9, sb⟩ := C8.killS (is := vs) hv
                    have C10 := (C9.wipe (fun i m d => killE_none m) pB1).reΓ (fun i m d => killE_none m) h2
                    rw [hw] at C10
                    exact ⟨m - 1, by omega, Z7, killE vs en7, f6, acc ++ [yv], dacc ++ [dy], fp ++ fp7, by omega, C10, upd_same, Cfg.fewer hL2 rfl sb, pn, a2, fun i q => a3 i (sb i p q), fun i m d => killE_none m, o2⟩
                  · exact o2.elim
            | _ => exact o2.elim
      · have hd : ds.drop i = [] := List.drop_eq_nil_of_le (by omega)
        rw [hd] at o2
        refine .inl ⟨Lv.stop _ _ _ hA (by omega), ?_⟩
        unfold compM at o2
        have C3 := back C2
        refine o2 (.ref p) Z2 H2 fps2 (p :: fp) C3 ⟨.own hD hh.own, List.nodup_cons.mpr ⟨pfp, hh.nd⟩, fun a m => ?_, fun a m => ?_, fun a m => ?_⟩
        · rcases List.mem_cons.mp m with rfl | m
          · exact pZ
          · exact hh.nz a m
        · rcases List.mem_cons.mp m with rfl | m
          · exact pf
          · exact hh.ds a m
        · rcases List.mem_cons.mp m with rfl | m
          · exact C1.none_of hp
          · rcases hh.nw a m with z | z
            · rw [← hB1] at z
              obtain ⟨j, hj, z⟩ := z
              rcases C1.newf j a z with y | y | y
              · exact .inl y
              · exact absurd (hl j (C1.bok.lki j a y)) hj
              · exact .inr y
            · rw [hB1H] at z
              exact C1.none_of z
theorem ei_lc {tg iter elt : Expr} {ifs : List Expr} {scope : Scope} {own : List (Str × Nat)} {ts : List Nat} {mi : AM} {g : D → En → Option En} {mt me : EM} (hc : X.calm = true) (hN : X.N.Nodup) (hi : II X G W lk Γ tg iter L Γ1 mi) (ok : BlkOk X.N X.env.scope scope own)
    (hg : ∀ (s : Shared) (H : Hp) (C : Addr) (cl : List (Str × Addr)) (fp : List Addr), TgI (X.blk s H scope (compEnvC scope cl C X.env) fp) G (L ++ lk) ro0 Γ1 tg 0 Γb ts g)
    (ht : ∀ (s : Shared) (H : Hp) (C : Addr) (cl : List (Str × Addr)) (fp : List Addr), TtI (X.blk s H scope (compEnvC scope cl C X.env) fp) G WN (L ++ lk) Γb ifs Γt mt)
    (he : ∀ (s : Shared) (H : Hp) (C : Addr) (cl : List (Str × Addr)) (fp : List Addr), EI (X.blk s H scope (compEnvC scope cl C X.env) fp) G WN (L ++ lk) Γt elt κ [] Γ2 me)
    (hv : ∀ i ∈ own.map (·.2), i ∉ L ++ lk := by decide) (hts : ∀ i ∈ ts, i ∈ own.map (·.2) := by decide) (h1 : eqOff (own.map (·.2)) Γt Γ1 = true := by decide) (h2 : eqOff (own.map (·.2)) Γ2 Γ1 = true := by decide) (hs : ∀ x, foldedSetIterable iter X.env x = pure x := by intro _; rfl) :
    EI X G W lk Γ (.ListComp elt [⟨tg, iter, ifs, 0⟩] scope pos) (κ + 1) [] Γ1 (mLc mi g mt me (own.map (·.2))) :=
  PE.imp (pe_lc hc hN hi ok hg ht he hs) fun σ H Q ⟨B, Z, en, fps, C, o⟩ => lc_run hv hts h1 h2 C o
/-- name = [..], on one line -/
theorem si_setLc {i : Nat} {y : Str} {py : Pos} {spos : Pos} {tg iter elt : Expr} {ifs : List Expr} {scope : Scope} {own : List (Str × Nat)} {ts : List Nat} {mi : AM} {g : D → En → Option En} {mt me : EM} (hc : X.calm = true) (hN : X.N.Nodup) (hW : WFree W) (hy : X.N[i]? = some y) (hyl : X.env.scope.names.lookup y = some .local)
    (hsw : swapsWith (.ListComp elt [⟨tg, iter, ifs, 0⟩] scope pos) (some (.Name y py)) spos.line X.env = pure true) (hi : II X G W lk Γ tg iter L Γ1 mi) (ok : BlkOk X.N X.env.scope scope own)
    (hg : ∀ (s : Shared) (H : Hp) (C : Addr) (cl : List (Str × Addr)) (fp : List Addr), TgI (X.blk s H scope (compEnvC scope cl C X.env) fp) G (L ++ lk) ro0 Γ1 tg 0 Γb ts g)
    (ht : ∀ (s : Shared) (H : Hp) (C : Addr) (cl : List (Str × Addr)) (fp : List Addr), TtI (X.blk s H scope (compEnvC scope cl C X.env) fp) G WN (L ++ lk) Γb ifs Γt mt)
    (he : ∀ (s : Shared) (H : Hp) (C : Addr) (cl : List (Str × Addr)) (fp : List Addr), EI (X.blk s H scope (compEnvC scope cl C X.env) fp) G WN (L ++ lk) Γt elt κ [] Γ2 me)
    (hv : ∀ i ∈ own.map (·.2), i ∉ L ++ lk := by decide) (hts : ∀ i ∈ ts, i ∈ own.map (·.2) := by decide) (h1 : eqOff (own.map (·.2)) Γt Γ1 = true := by decide) (h2 : eqOff (own.map (·.2)) Γ2 Γ1 = true := by decide)
    (g1 : i ∉ lk := by decide) (g2 : i < Γ1.length := by decide) (g3 : (ro.io.getD i none).isSome = false := by rfl) (hs : ∀ x, foldedSetIterable iter X.env x = pure x := by intro _; rfl) :
    SI X G W lk ro Γ (.Assign [.Name y py] (.ListComp elt [⟨tg, iter, ifs, 0⟩] scope pos) spos) (Γ1.set i (κ + 1)) (mSet i (mLc mi g mt me (own.map (·.2)))) :=
  PS.imp (ps_setLc hc hN hy hyl hsw hi ok hg ht he hs) fun D σ H ⟨B, Z, en, fps, P, C, o⟩ => by
    refine lc_run (Γ1 := Γ1) (κ := κ) (W := W) hv hts h1 h2 C ?_
    unfold mSet at o
    cases e : mLc mi g mt me (own.map (·.2)) en with
    | bad => rw [e] at o; exact o
    | exc c x => rw [e] at o; exact fun Cc dd H' y => o Cc dd σ H' y
    | ok d en' =>
      rw [e] at o
      intro v Z' H' fps' fp C' h'
      exact o _ _ _ _ (C'.set h' g1 g2 (pin_ne P g3))
end
end Im
/-! Defs: what they promise; calls. -/
namespace Im
open PySem PySem.Spec PyProof.Rows L2
/-- a def's promise, called where no repr is under way -/
structure FnG (P : Program) (w : World) (K : PySem.W.Frag) (mg : Str → Option Value) (base : Heap) (CX : CXT) (k : Nat) (f : Addr) (fd : FuncData) (ps : List Str) (sp : Sp) : Prop where
  len : ∀ vs H Q E, sp vs H Q E → vs.length = ps.length
  run : ∀ (A : Around) (outer : List Env) (s : Shared) (H : Hp) (args : Args) (us : List Value) (vs : List V) (Q : VK) (E : XK), A.guards = some [] → Room k A → Env0 P w K mg base A outer s H → BindsTo s fd args (ps.zip us) → Vals vs us → sp vs H Q E →
    codeAny (model P w) A (.call (.ref f) args) (CR CX outer P w H s Q E) s
theorem guards_deeper {A : Around} {env : Env} (h : A.guards = some []) : (A.deeper env).guards = some [] := h
theorem FnG.mono {P : Program} {w : World} {K : PySem.W.Frag} {mg : Str → Option Value} {base : Heap} {CX : CXT} {j k : Nat} {f : Addr} {fd : FuncData} {ps : List Str} {sp : Sp} (F : FnG P w K mg base CX j f fd ps sp) (h : j ≤ k) : FnG P w K mg base CX k f fd ps sp :=
  ⟨F.len, fun A outer s H args us vs Q E hg hr => F.run A outer s H args us vs Q E hg (hr.mono h)⟩
/-- a def by its body -/
theorem fnG_of {P : Program} {w : World} {K : PySem.W.Frag} {mg : Str → Option Value} {base : Heap} {x qual : Str} {st : Stmt} {f : Addr} {fd : FuncData} {N ps : List Str} {k : Nat} {sp : Sp} (F : Fun K x qual st f fd) (S : FnScope N ps (defScope st)) (len : ∀ vs H Q E, sp vs H Q E → vs.length = ps.length)
    (hbody : ∀ (cdv : Value) (A : Around) (outer : List Env) (s : Shared) (H : Hp) (vs : List V) (Q : VK) (E : XK), A.guards = some [] → Room k (A.deeper (envOfC qual (defScope st) s.heap.objs.size f cdv)) → sp vs H Q E →
      ∃ t, PSs (cxOf (L2.CX P w) P w K mg base N qual (defScope st) f cdv A outer s H E) (defBody st) t ∧ t { nx := fun _ H' => Q .non H', rt := Q } (L2.start N vs) H) : FnG P w K mg base (L2.CX P w) (k + 1) f fd ps sp := by
  obtain ⟨oc, od, kV, doc, pm, an, cdv, ct, osl, rfl, hl, hcd⟩ := F.ex
  refine ⟨len, fun A outer s H args us vs Q E hg hr e0 hb r hsp => ?_⟩
  have inK : K.In s.heap := e0.mod.kin.keeps fun b o e => (e0.bs b o e).1
  have noLim : s.heap.NoLimit := e0.mod.nolimit.keeps fun b o e => (e0.bs b o e).1
  have kinds : ∀ y ∈ ps.zip us, (defScope st).names.lookup y.1 = some .local ∨ ((defScope st).names.lookup y.1 = some .cell ∧ ((cellsFrom (s.heap.objs.size + 1) (defScope st).names []).lookup y.1).isSome = true) := fun y hy =>
    (S.par y.1 (List.of_mem_zip hy).1).imp id fun q => ⟨q, PySem.W.cellsFrom_some _ _ _ (.inl q)⟩
  obtain ⟨t, ht, hq⟩ := hbody cdv A outer s H vs Q E hg (hr.deeper _) hsp
  refine codeAny_call_function hr.depth (inK _ _ hl) rfl S.co S.gen rfl (PySem.W.codeRec_of inK hcd) (hb _ _ _ _ (wpAny_newFunctionEnv_cells S.kind kinds fun env he s1 x => ?_))
  subst he
  refine ⟨noLim.keeps x.toInCall.keep, codeAny_func (wpAny_mono (ht.run [] s1 (L2.start N vs) H _ (inv_start S hr.hd e0 (len _ _ _ _ hsp) r x) hq) (fun fl s' hs => ?_) fun _ _ hs => hs)⟩
  cases fl with
  | ret u =>
    obtain ⟨v, σ', H', J, rv, q⟩ := hs
    exact ⟨v, H', J.os, J.bare, J.base, J.hok, rv, q⟩
  | next =>
    obtain ⟨σ', H', J, q⟩ := hs
    exact ⟨.non, H', J.os, J.bare, J.base, J.hok, rfl, q⟩
  | brk => obtain ⟨_, _, _, q⟩ := hs; exact q.elim
  | cont => obtain ⟨_, _, _, q⟩ := hs; exact q.elim
inductive FRes where
  | ok (d : D) (ios : En) | exc (c : Str) (x : D) | bad
/-- kinds of the parameters; of those given back; of the result -/
structure Sg where
  ks : List Nat
  io : List (Option Nat)
  κ : Nat
structure ArgsH (G : GI) (Z : Addr → Prop) (H : Hp) (ks : List Nat) (vs : List V) (ds : List D) (f : Nat → List Addr) : Prop where
  own : ∀ j d, ds[j]? = some d → ∃ v, vs[j]? = some v ∧ Own G Z H (ks.getD j 0) v d (f j)
  len : vs.length = ds.length
  emp : ∀ j, ds.length ≤ j → f j = []
  nd : ∀ j, (f j).Nodup
  dis : ∀ i j a, a ∈ f i → a ∈ f j → i = j
  nz : ∀ j a, a ∈ f j → ¬ Z a
structure EndOk (G : GI) (sg : Sg) (H : Hp) (Z : Addr → Prop) (f : Nat → List Addr) (vs : List V) (d : D) (ios : En) (v : V) (Z' : Addr → Prop) (H' : Hp) (fr : List Addr) (f' : Nat → List Addr) : Prop where
  keep : ∀ a o, H a = some o → (∀ j, a ∉ f j) → H' a = some o
  zb : ∀ a, Z a → Z' a
  zn : ∀ a, Z' a → Z a ∨ (∃ j, a ∈ f j) ∨ H a = none
  zt : ∀ a, Z' a → ∃ o, H' a = some o
  own : Own G Z' H' sg.κ v d fr
  nd : fr.Nodup
  nz : ∀ a ∈ fr, ¬ Z' a
  nw : ∀ a ∈ fr, (∃ j, a ∈ f j) ∨ H a = none
  io : ∀ j d', ios[j]? = some (some d') → ∃ k w, sg.io.getD j none = some k ∧ vs[j]? = some w ∧ Own G Z' H' k w d' (f' j)
  ind : ∀ j, (f' j).Nodup
  inz : ∀ j a, a ∈ f' j → ¬ Z' a
  inw : ∀ j a, a ∈ f' j → (∃ j, a ∈ f j) ∨ H a = none
  ap : ∀ j a, a ∈ f' j → a ∉ fr
def bsF (H : Hp) (Z : Addr → Prop) (f : Nat → List Addr) (pins : List (Nat × V)) : Bs := ⟨H, Z, fun a => ∃ j, a ∈ f j, fun _ _ => False, pins⟩
def EndF (G : GI) (sg : Sg) (H : Hp) (Z : Addr → Prop) (f : Nat → List Addr) (vs : List V) (Q : VK) (E : XK) : FRes → Prop
  | .ok d ios => ∀ v Z' H' fr f', EndOk G sg H Z f vs d ios v Z' H' fr f' → Q v H'
  | .exc c x => ∀ C dd H', XOk G (bsF H Z f []) H' c x C dd → E (.ref C) (some dd) H'
  | .bad => False
def spI (G : GI) (sg : Sg) (F : List D → FRes) : Sp := fun vs H Q E => vs.length = sg.ks.length ∧ ∃ Z ds f, (∀ a, Z a → ∃ o, H a = some o) ∧ ArgsH G Z H sg.ks vs ds f ∧ EndF G sg H Z f vs Q E (F ds)
section
variable {G : GI} {B B' : Bs} {W : WX} {lk lk' L L' La Lb : List Nat} {Z Z' : Addr → Prop} {σ σ' : St} {H H' : Hp} {Γ Γ' Γ1 Γ2 Γ3 : List Nat} {en en' : En} {fps fps' : Nat → List Addr} {κ κ' : Nat} {κs : List Nat} {v : V} {d : D} {ro : RO}
variable {X : Cx} {pos : Pos} {m ma mb : EM} {e a b : Expr}
/-! ### a def's body -/
def runF (n : Nat) (io : List (Option Nat)) (m : SM) : List D → FRes := fun ds => match m (ds.map some ++ List.replicate (n - ds.length) none) with
  | .rt d en' => .ok d (maskE io en')
  | .nx en' => .ok .non (maskE io en')
  | .exc c x => .exc c x
  | .bad => .bad
theorem start_get {N : List Str} {vs : List V} {i : Nat} {v : V} (h : vs[i]? = some v) : (L2.start N vs)[i]? = some (some v) := by
  unfold L2.start
  have hi : i < vs.length := (List.getElem?_eq_some_iff.mp h).1
  rw [List.getElem?_append_left (by simpa using hi), List.getElem?_map, h]
  rfl
theorem args_cfg {N : List Str} {ks : List Nat} {vs : List V} {ds : List D} {f : Nat → List Addr} {io : List (Option Nat)} (hl : vs.length = ks.length) (hN : ks.length ≤ N.length) (zt : ∀ a, Z a → ∃ o, H a = some o) (h : ArgsH G Z H ks vs ds f) (ha : Γ = ks ++ List.replicate (N.length - ks.length) 0) :
    ∃ pins, PinIn (bsF H Z f pins) ⟨io, κ⟩ ∧ (∀ j v, vs[j]? = some v → (io.getD j none).isSome = true → (j, v) ∈ pins) ∧ Cfg G (bsF H Z f pins) [] Z (L2.start N vs) H Γ (ds.map some ++ List.replicate (N.length - ds.length) none) f := by
  have hcg : ∀ j a, a ∈ f j → ∃ o, H a = some o ∧ Chg o := fun j a m => by
    by_cases hj : j < ds.length
    · obtain ⟨v, _, o⟩ := h.own j ds[j] (List.getElem?_eq_getElem hj)
      exact o.chg a m
    · rw [h.emp j (by omega)] at m; cases m
  refine ⟨(List.range vs.length).filterMap fun j => if (io.getD j none).isSome then (vs[j]?).map fun v => (j, v) else none, fun p m => ?_, fun j v e q => ?_, ?_⟩
  · obtain ⟨j, _, e⟩ := List.mem_filterMap.mp m
    split at e
    · rename_i q
      cases e2 : vs[j]? with
      | none => rw [e2] at e; cases e
      | some v => rw [e2] at e; cases e; exact q
    · cases e
  · refine List.mem_filterMap.mpr ⟨j, List.mem_range.mpr (List.getElem?_eq_some_iff.mp e).1, ?_⟩
    rw [if_pos q, e]; rfl
  · have dsl : ds.length = vs.length := h.len.symm
    have enget : ∀ i d, (ds.map some ++ List.replicate (N.length - ds.length) none)[i]? = some (some d) → ds[i]? = some d := fun i d e => by
      by_cases hi : i < ds.length
      · rw [List.getElem?_append_left (by simpa using hi), List.getElem?_map] at e
        cases q : ds[i]? with
        | none => rw [q] at e; cases e
        | some d' => rw [q] at e; cases e; rfl
      · rw [List.getElem?_append_right (by simpa using hi), List.getElem?_replicate] at e
        split at e <;> cases e
    refine ⟨⟨fun a ⟨j, m⟩ => hcg j a m, fun _ _ z => z.elim, fun _ _ z => z.elim, zt, fun a z ⟨j, m⟩ => h.nz j a m z, fun _ _ _ z => z.elim⟩, ?_, fun i d e => ?_, fun i e => ?_, h.nd, h.dis, h.nz, zt, fun a o e _ => e, fun i a m => .inl ⟨i, m⟩, fun _ _ _ _ z => z.elim, fun _ _ z => z.elim, fun a z => z, fun a z => .inl z, fun p m => ?_⟩
    · unfold L2.start
      simp
      omega
    · have e := enget i d e
      obtain ⟨v, e2, o⟩ := h.own i d e
      refine ⟨v, start_get e2, ?_⟩
      have g : Γ.getD i 0 = ks.getD i 0 := by
        have hi : i < ks.length := by rw [← hl]; exact (List.getElem?_eq_some_iff.mp e2).1
        rw [ha, List.getD_eq_getElem?_getD, List.getD_eq_getElem?_getD, List.getElem?_append_left hi]
      rw [g]; exact o
    · by_cases hi : i < ds.length
      · refine absurd ?_ (e ds[i])
        rw [List.getElem?_append_left (by simpa using hi), List.getElem?_map, List.getElem?_eq_getElem hi]; rfl
      · exact h.emp i (by omega)
    · obtain ⟨j, _, e⟩ := List.mem_filterMap.mp m
      split at e
      · cases e2 : vs[j]? with
        | none => rw [e2] at e; cases e
        | some v => rw [e2] at e; cases e; exact start_get e2
      · cases e
/-- the end of a body -/
theorem end_ok {sg : Sg} {f : Nat → List Addr} {vs : List V} {pins : List (Nat × V)} {fr : List Addr} (hp : ∀ j v, vs[j]? = some v → (sg.io.getD j none).isSome = true → (j, v) ∈ pins) (hio : ∀ i, vs.length ≤ i → sg.io.getD i none = none) (C : Cfg G (bsF H Z f pins) [] Z' σ' H' (sg.io.map (·.getD 0)) en' fps') (hm : ∀ i d, en'[i]? = some (some d) → (sg.io.getD i none).isSome = true) (h : Held G (bsF H Z f pins) [] Z' H' fps' sg.κ v d fr) :
    EndOk G sg H Z f vs d en' v Z' H' fr fps' where
  keep := fun a o e n => C.keep a o e fun ⟨j, m⟩ => n j m
  zb := C.zb
  zn := fun a z => by
    rcases C.zn a z with y | y | ⟨_, y⟩ | y
    · exact .inl y
    · exact .inr (.inl y)
    · exact y.elim
    · exact .inr (.inr y)
  zt := C.zt
  own := h.own.monoZ fun a z => Zl_nil.mp z
  nd := h.nd
  nz := h.nz
  nw := h.nw
  io := fun j d' e => by
    obtain ⟨w, e1, o⟩ := C.rep j d' e
    have q := hm j d' e
    obtain ⟨k, ek⟩ := Option.isSome_iff_exists.mp q
    have hj : j < vs.length := by
      by_cases hj : j < vs.length
      · exact hj
      · rw [hio j (by omega)] at ek; cases ek
    have e2 := List.getElem?_eq_getElem hj
    have pj := C.pin _ (hp j vs[j] e2 q)
    rw [e1] at pj
    cases pj
    refine ⟨k, vs[j], ek, e2, ?_⟩
    have g : (sg.io.map (·.getD 0)).getD j 0 = k := by
      rw [List.getD_eq_getElem?_getD, List.getElem?_map]
      rw [List.getD_eq_getElem?_getD] at ek
      cases q : sg.io[j]? with
      | none => rw [q] at ek; cases ek
      | some y => rw [q] at ek; simp at ek; subst ek; rfl
    rw [← g]
    exact o
  ind := C.nd
  inz := C.nz
  inw := fun j a m => by
    rcases C.newf j a m with y | y | y
    · exact .inl y
    · exact y.elim
    · exact .inr y
  ap := fun j a m m' => h.ds a m' j m
def ioShort (io : List (Option Nat)) (n : Nat) : Bool := (io.drop n).all (·.isNone)
theorem ioShort_of {io : List (Option Nat)} {n : Nat} (h : ioShort io n = true) : ∀ i, n ≤ i → io.getD i none = none := fun i hi => by
  rw [List.getD_eq_getElem?_getD]
  cases e : io[i]? with
  | none => rfl
  | some y =>
    unfold ioShort at h
    rw [List.all_eq_true] at h
    have q : (io.drop n)[i - n]? = some y := by rw [List.getElem?_drop]; rw [show n + (i - n) = i by omega]; exact e
    have := h y (List.mem_of_getElem? q)
    cases y with
    | none => rfl
    | some z => cases this
theorem wfree_of {E : XK} : WFree (fun c d _ H => E c d H) := fun _ _ _ _ _ h => h
/-- THE RULE for a def -/
theorem fn_im {P : Program} {w : World} {K : PySem.W.Frag} {mg : Str → Option Value} {base : Heap} {x qual : Str} {st : Stmt} {fa : Addr} {fd : FuncData} {N ps : List Str} {k : Nat} {sg : Sg} {m : SM} (F : Fun K x qual st fa fd) (S : FnScope N ps (defScope st)) (hlen : sg.ks.length = ps.length) (hio : ioShort sg.io sg.ks.length = true) (hNl : sg.ks.length ≤ N.length)
    (hr : roOk ⟨sg.io, sg.κ⟩ Γ' = true ∨ ∀ ds en', m ds ≠ .nx en')
    (hbody : ∀ (cdv : Value) (A : Around) (outer : List Env) (s : Shared) (H : Hp) (E : XK), A.guards = some [] → Room k (A.deeper (envOfC qual (defScope st) s.heap.objs.size fa cdv)) →
      SsI (cxOf (L2.CX P w) P w K mg base N qual (defScope st) fa cdv A outer s H E) G (fun c d _ H => E c d H) [] ⟨sg.io, sg.κ⟩ (sg.ks ++ List.replicate (N.length - sg.ks.length) 0) (defBody st) Γ' m) :
    FnG P w K mg base (L2.CX P w) (k + 1) fa fd ps (spI G sg (runF N.length sg.io m)) :=
  fnG_of F S (fun vs H Q E h => h.1.trans hlen) fun cdv A outer s H vs Q E hgd hrm ⟨hl, Z, ds, f, zt, ha, he⟩ => by
    refine ⟨_, hbody cdv A outer s H E hgd hrm, ?_⟩
    obtain ⟨pins, P1, P2, C⟩ := args_cfg (io := sg.io) (κ := sg.κ) hl hNl zt ha rfl
    refine ⟨_, Z, _, f, P1, C, ?_⟩
    unfold runF at he
    cases e : m (ds.map some ++ List.replicate (N.length - ds.length) none) with
    | bad => rw [e] at he; exact he
    | exc c x =>
      rw [e] at he
      exact fun Cc dd σ' H' y => he Cc dd H' ⟨y.cls, y.ex, y.keep⟩
    | rt d en' =>
      rw [e] at he
      intro v σ' Z' H' fps' fp C' h'
      have C2 := C'.mask (io := sg.io) (fun i k q => by
        show (sg.io.map (·.getD 0)).getD i 0 = k
        rw [List.getD_eq_getElem?_getD, List.getElem?_map]
        rw [List.getD_eq_getElem?_getD] at q
        cases z : sg.io[i]? with
        | none => rw [z] at q; cases q
        | some y => rw [z] at q; simp at q; subst q; rfl) (fun i m => nomatch m)
      exact he _ _ _ _ _ (end_ok P2 (fun i hi => ioShort_of hio i (by omega)) C2 (fun i d q => (maskE_get q).2) (held_mask (en := en') h'))
    | nx en' =>
      rw [e] at he
      intro σ' Z' H' fps' C'
      rcases hr with hr | hr
      · have C2 := C'.mask (io := sg.io) (roOk_of hr) (fun i m => nomatch m)
        exact he _ _ _ [] _ (end_ok P2 (fun i hi => ioShort_of hio i (by omega)) C2 (fun i d q => (maskE_get q).2) ⟨.non, List.nodup_nil, (fun _ h => nomatch h), (fun _ h => nomatch h), (fun _ h => nomatch h)⟩)
      · exact absurd e (hr _ _)
/-! ### the arguments of a call -/
/-- vs at j is what the slot holds -/
def SlAt (σ : St) (sl : List (Option Nat)) (vs : List V) : Prop := ∀ (j i : Nat), sl[j]? = some (some i) → ∃ v, vs[j]? = some v ∧ σ[i]? = some (some v)
def OutC (G : GI) (B : Bs) (W : WX) (lk : List Nat) (κs : List Nat) (sl : List (Option Nat)) (L Γ' : List Nat) (σ : St) (Q : List V → Hp → Prop) : ResL → Prop
  | .ok ds en' => ∀ vs Z' H' fps' fpl, Cfg G B lk Z' σ H' Γ' en' fps' → HeldK G B L Z' H' fps' κs vs ds fpl → SlAt σ sl vs → Q vs H'
  | .exc c x => ∀ C dd H', XOk G B H' c x C dd → W (.ref C) (some dd) σ H'
  | .bad => False
def tC (G : GI) (W : WX) (lk Γ κs : List Nat) (sl : List (Option Nat)) (L Γ' : List Nat) (m : AM) : TA := fun σ H Q =>
  ∃ B Z en fps, Cfg G B lk Z σ H Γ en fps ∧ OutC G B W lk κs sl L Γ' σ Q (m en)
/-- one argument; a name given by reference says its slot -/
def OutC1 (G : GI) (B : Bs) (W : WX) (lk : List Nat) (κ : Nat) (so : Option Nat) (L Γ' : List Nat) (σ : St) (Q : VK) : Res → Prop
  | .ok d en' => ∀ v Z' H' fps' fp, Cfg G B lk Z' σ H' Γ' en' fps' → Held G B L Z' H' fps' κ v d fp → (∀ i, so = some i → σ[i]? = some (some v)) → Q v H'
  | .exc c x => ∀ C dd H', XOk G B H' c x C dd → W (.ref C) (some dd) σ H'
  | .bad => False
def tC1 (G : GI) (W : WX) (lk Γ : List Nat) (κ : Nat) (so : Option Nat) (L Γ' : List Nat) (m : EM) : TE := fun σ H Q =>
  ∃ B Z en fps, Cfg G B lk Z σ H Γ en fps ∧ OutC1 G B W lk κ so L Γ' σ Q (m en)
def C1I (X : Cx) (G : GI) (W : WX) (lk Γ : List Nat) (e : Expr) (κ : Nat) (so : Option Nat) (L Γ' : List Nat) (m : EM) : Prop := PE X e (tC1 G W lk Γ κ so L Γ' m)
theorem c1_e (h : EI X G W lk Γ e κ L Γ' m) : C1I X G W lk Γ e κ none L Γ' m := PE.imp h fun σ H Q ⟨B, Z, en, fps, C, o⟩ => by
  refine ⟨B, Z, en, fps, C, ?_⟩
  cases e : m en with
  | bad => rw [e] at o; exact o
  | exc c x => rw [e] at o; exact o
  | ok d en' => rw [e] at o; exact fun v Z' H' fps' fp C' h' => o v Z' H' fps' fp C' h' (fun _ q => nomatch q)
/-- by reference -/
theorem c1_io {i : Nat} {x : Str} (hN : X.N[i]? = some x) (hv : Vis X.env.scope x) (hk : Γ.getD i 0 = κ) (hi : i ∉ lk := by decide) (hd : (x == ("__debug__" : Str)) = false := by decide) (hcd : (x == ("__classdict__" : Str)) = false := by decide) :
    C1I X G W lk Γ (.Name x pos) κ (some i) [] Γ (mMove i) := PE.imp (pe_var hN hv hd hcd) fun σ H Q ⟨B, Z, en, fps, C, o⟩ => by
  unfold mMove at o
  split at o
  · rename_i d e
    obtain ⟨v, h1, h2⟩ := C.rep i d e
    rw [hk] at h2
    refine ⟨v, h1, o _ _ _ _ (fps i) (C.drop i hi) ⟨h2.monoZ fun a z => Zl_nil.mpr z, C.nd i, C.nz i, fun a h j h' => ?_, fun a h => ?_⟩ (fun j q => by cases q; exact h1)⟩
    · split at h'
      · cases h'
      · rename_i hj
        exact hj (C.dis j i a h' h)
    · rcases C.newf i a h with y | y | y
      · exact .inl y
      · exact absurd (C.bok.lki i a y) hi
      · exact .inr y
  · exact o.elim
theorem tC_nil {Q : List V → Hp → Prop} (h : tC G W lk Γ [] [] [] Γ mNil σ H Q) : tNil σ H Q := by
  obtain ⟨B, Z, en, fps, C, o⟩ := h
  exact o [] Z H fps [] C ⟨.nil, List.nodup_nil, (fun _ h => nomatch h), (fun _ h => nomatch h), (fun _ h => nomatch h)⟩ (fun j i h => by simp at h)
theorem tC_cons {ms : AM} {so : Option Nat} {sl : List (Option Nat)} {Q : List V → Hp → Prop} (h : tC G W lk Γ (κ :: κs) (so :: sl) (La ++ Lb) Γ2 (mCons m ms) σ H Q) :
    tCons (tC1 G W lk Γ κ so La Γ1 m) (tC G W (La ++ lk) Γ1 κs sl Lb Γ2 ms) σ H Q := by
  obtain ⟨B, Z, en, fps, C, o⟩ := h
  refine ⟨B, Z, en, fps, C, ?_⟩
  unfold mCons at o
  cases ea : m en with
  | bad => rw [ea] at o; exact o.elim
  | exc c x => rw [ea] at o; exact o
  | ok d1 en1 =>
    rw [ea] at o
    dsimp only at o
    intro v1 Z1 H1 fps1 fp1 C1 h1 s1
    refine ⟨rb H1 Z1 (La ++ lk) fps1 B.pins, Z1, en1, fps1, C1.rebase _, ?_⟩
    have hl : ∀ i ∈ lk, i ∈ La ++ lk := fun i h => List.mem_append_right _ h
    have hL : ∀ i ∈ La, i ∈ La ++ lk := fun i h => List.mem_append_left _ h
    cases eb : ms en1 with
    | bad => rw [eb] at o; exact o.elim
    | exc c x => rw [eb] at o; exact fun Cc dd H' x => o _ _ _ (x.comp C1 hl)
    | ok ds en2 =>
      rw [eb] at o
      intro vs Z2 H2 fps2 fpl C2 h2 s2
      have k1 := h1.stay C1 hl hL C2
      have k2 := HeldK.comp C1 hl h2
      have ap := held_apart C1 h1.own.chg h1.ds h2.nw
      refine o (v1 :: vs) Z2 H2 fps2 (fp1 :: fpl) (C1.comp hl C2) ⟨.cons (k1.own.monoZ fun a z => ?_) (k2.own.monoZ fun a z => ?_), ?_, fun a h => ?_, fun a h => ?_, fun a h => ?_⟩ (fun j i q => ?_)
      · exact z.elim .inl fun ⟨i, m, q⟩ => .inr ⟨i, List.mem_append_left _ m, q⟩
      · exact z.elim .inl fun ⟨i, m, q⟩ => .inr ⟨i, List.mem_append_right _ m, q⟩
      · rw [List.flatten_cons, List.nodup_append]
        exact ⟨k1.nd, k2.nd, fun x hx y hy e => ap x hx (e ▸ hy)⟩
      · rw [List.flatten_cons] at h; rcases List.mem_append.mp h with h | h
        · exact k1.nz a h
        · exact k2.nz a h
      · rw [List.flatten_cons] at h; rcases List.mem_append.mp h with h | h
        · exact k1.ds a h
        · exact k2.ds a h
      · rw [List.flatten_cons] at h; rcases List.mem_append.mp h with h | h
        · exact k1.nw a h
        · exact k2.nw a h
      · cases j with
        | zero =>
          simp only [List.getElem?_cons_zero, Option.some.injEq] at q
          exact ⟨v1, rfl, s1 i q⟩
        | succ j => simpa using s2 j i (by simpa using q)
def CI (X : Cx) (G : GI) (W : WX) (lk Γ : List Nat) (es : List Expr) (κs : List Nat) (sl : List (Option Nat)) (L Γ' : List Nat) (m : AM) : Prop := PA X es (tC G W lk Γ κs sl L Γ' m)
def KI (X : Cx) (G : GI) (W : WX) (lk Γ : List Nat) (kws : List Keyword) (κs : List Nat) (sl : List (Option Nat)) (L Γ' : List Nat) (m : AM) : Prop := PK X kws (tC G W lk Γ κs sl L Γ' m)
theorem PK.imp {kws : List Keyword} {t t' : TA} (h : PK X kws t) (i : ∀ σ H Q, t' σ H Q → t σ H Q) : PK X kws t' := ⟨fun pos pins s σ H Q I q => h.run pos pins s σ H Q I (i σ H Q q)⟩
variable {es : List Expr} {kws : List Keyword} {ms mk : AM} {so : Option Nat} {sl sk : List (Option Nat)} {κt : List Nat}
theorem ci_nil : CI X G W lk Γ [] [] [] [] Γ mNil := PA.imp pa_nil fun σ H Q h => tC_nil h
theorem ci_cons (ha : C1I X G W lk Γ e κ so La Γ1 m) (hr : CI X G W (La ++ lk) Γ1 es κs sl Lb Γ2 ms) (hs : starEach (e :: es) X.env = (false, eval e X.env) :: starEach es X.env := by rfl) :
    CI X G W lk Γ (e :: es) (κ :: κs) (so :: sl) (La ++ Lb) Γ2 (mCons m ms) := PA.imp (pa_cons ha hr hs) fun σ H Q h => tC_cons h
theorem ki_nil : KI X G W lk Γ [] [] [] [] Γ mNil := PK.imp pk_nil fun σ H Q h => tC_nil h
theorem ki_cons {nm : Option Str} {kpos : Pos} (ha : C1I X G W lk Γ e κ so La Γ1 m) (hr : KI X G W (La ++ lk) Γ1 kws κs sl Lb Γ2 ms) :
    KI X G W lk Γ (⟨nm, e, kpos⟩ :: kws) (κ :: κs) (so :: sl) (La ++ Lb) Γ2 (mCons m ms) := PK.imp (pk_cons ha hr) fun σ H Q h => tC_cons h
/-! ### binding -/
def permL {α : Type} (p : List Nat) (xs : List α) : List α := p.filterMap (xs[·]?)
theorem permL_get {α : Type} {xs : List α} : ∀ {p : List Nat} {j : Nat}, (∀ i ∈ p, i < xs.length) → (permL p xs)[j]? = (p[j]?).bind (xs[·]?)
  | [], j, _ => by simp [permL]
  | i :: p, j, h => by
    have hi := h i List.mem_cons_self
    unfold permL
    rw [List.filterMap_cons, List.getElem?_eq_getElem hi]
    cases j with
    | zero => simp [hi]
    | succ j =>
      simp only [List.getElem?_cons_succ]
      exact permL_get (p := p) fun i m => h i (List.mem_cons_of_mem _ m)
theorem permL_len {α : Type} {xs : List α} : ∀ {p : List Nat}, (∀ i ∈ p, i < xs.length) → (permL p xs).length = p.length
  | [], _ => rfl
  | i :: p, h => by
    have hi := h i List.mem_cons_self
    unfold permL
    rw [List.filterMap_cons, List.getElem?_eq_getElem hi]
    exact congrArg (· + 1) (permL_len (p := p) fun i m => h i (List.mem_cons_of_mem _ m))
theorem vals_at {vs : List V} {us : List Value} (r : Vals vs us) (i : Nat) : (vs[i]? = none ∧ us[i]? = none) ∨ ∃ v u, vs[i]? = some v ∧ us[i]? = some u ∧ RelV v u := by
  cases e : vs[i]? with
  | none =>
    refine .inl ⟨rfl, ?_⟩
    have := r.length
    rw [List.getElem?_eq_none_iff] at e ⊢
    omega
  | some v =>
    obtain ⟨u, h1, h2⟩ := r.get e
    exact .inr ⟨v, u, rfl, h1, h2⟩
theorem vals_perm {vs : List V} {us : List Value} (r : Vals vs us) : ∀ p : List Nat, Vals (permL p vs) (permL p us)
  | [] => .nil
  | i :: p => by
    unfold permL
    rw [List.filterMap_cons, List.filterMap_cons]
    rcases vals_at r i with ⟨h1, h2⟩ | ⟨v, u, h1, h2, h3⟩
    · rw [h1, h2]; exact vals_perm r p
    · rw [h1, h2]; exact .cons h3 (vals_perm r p)
/-- how a call with nu positional arguments and the keywords kn binds -/
def KB (K : PySem.W.Frag) (fd : FuncData) (ps : List Str) (nu : Nat) (kn : List Str) (p : List Nat) : Prop :=
  ∀ (s : Shared) (us ws : List Value), K.In s.heap → us.length = nu → ws.length = kn.length → BindsTo s fd ⟨us, kn.zip ws⟩ (ps.zip (permL p (us ++ ws)))
theorem kb_of {K : PySem.W.Frag} {x qual : Str} {st : Stmt} {f : Addr} {fd : FuncData} {ps kn : List Str} {nu : Nat} {p : List Nat} (F : Fun K x qual st f fd)
    (h : ∀ (kV doc pm : Value) (an : Option Addr) (cdv ct : Value) (us ws : List Value), us.length = nu → ws.length = kn.length → bindArgs (PySem.W.fnOf x qual (defArgs st) (defBody st) (defScope st) .none kV doc pm an cdv ct) ⟨us, kn.zip ws⟩ = pure (ps.zip (permL p (us ++ ws)))) : KB K fd ps nu kn p := by
  obtain ⟨oc, od, kV, doc, pm, an, cdv, ct, osl, rfl, lk, hcd⟩ := F.ex
  exact fun s us ws _ h1 h2 => .of_eq (h kV doc pm an cdv ct us ws h1 h2)
/-! ### the call -/
theorem ownK_get : ∀ {ks : List Nat} {vs : List V} {ds : List D} {fpl : List (List Addr)} {j : Nat} {d : D}, OwnK G Z H ks vs ds fpl → ds[j]? = some d → ∃ v k, vs[j]? = some v ∧ ks[j]? = some k ∧ Own G Z H k v d (fpl.getD j [])
  | _, _, _, _, j, d, .nil, e => by simp at e
  | _, _, _, _, j, d, .cons h t, e => by
    cases j with
    | zero =>
      simp only [List.getElem?_cons_zero, Option.some.injEq] at e
      subst e
      exact ⟨_, _, rfl, rfl, h⟩
    | succ j => simpa using ownK_get t (by simpa using e)
theorem ownK_fl : ∀ {ks : List Nat} {vs : List V} {ds : List D} {fpl : List (List Addr)}, OwnK G Z H ks vs ds fpl → fpl.length = ds.length
  | _, _, _, _, .nil => rfl
  | _, _, _, _, .cons h t => congrArg (· + 1) (ownK_fl t)
theorem flat_mem {fpl : List (List Addr)} {j : Nat} {a : Addr} (h : a ∈ fpl.getD j []) : a ∈ fpl.flatten := by
  rw [List.getD_eq_getElem?_getD] at h
  cases e : fpl[j]? with
  | none => rw [e] at h; cases h
  | some l => rw [e] at h; exact List.mem_flatten.mpr ⟨l, List.mem_of_getElem? e, h⟩
theorem flat_dis : ∀ {fpl : List (List Addr)} {i j : Nat} {a : Addr}, fpl.flatten.Nodup → a ∈ fpl.getD i [] → a ∈ fpl.getD j [] → i = j
  | [], i, j, a, _, h, _ => by simp at h
  | l :: fpl, i, j, a, nd, h, h' => by
    rw [List.flatten_cons] at nd
    have n := List.nodup_append.mp nd
    cases i with
    | zero =>
      cases j with
      | zero => rfl
      | succ j => exact absurd rfl (n.2.2 a (by simpa using h) a (flat_mem (j := j) (by simpa using h')))
    | succ i =>
      cases j with
      | zero => exact absurd rfl (n.2.2 a (by simpa using h') a (flat_mem (j := i) (by simpa using h)))
      | succ j => exact congrArg (· + 1) (flat_dis n.2.1 (by simpa using h) (by simpa using h'))
theorem flat_nd {fpl : List (List Addr)} {j : Nat} (nd : fpl.flatten.Nodup) : (fpl.getD j []).Nodup := by
  rw [List.getD_eq_getElem?_getD]
  cases e : fpl[j]? with
  | none => exact List.nodup_nil
  | some l =>
    have s : l.Sublist fpl.flatten := by
      have m := List.mem_of_getElem? e
      exact List.sublist_flatten_of_mem m
    exact nd.sublist s
def pf (p : List Nat) (fpl : List (List Addr)) : Nat → List Addr := fun j => match p[j]? with
  | some i => fpl.getD i []
  | none => []
theorem args_h {vs : List V} {ds : List D} {fpl : List (List Addr)} {p ks : List Nat} (h : HeldK G B L Z H fps κs vs ds fpl) (nz : ∀ a ∈ fpl.flatten, ¬ Zl Z L fps a) (hp : ∀ i ∈ p, i < κs.length) (nd : p.Nodup) (hk : permL p κs = ks) : ArgsH G (Zl Z L fps) H ks (permL p vs) (permL p ds) (pf p fpl) := by
  have hl := h.own.len
  have pd : ∀ i ∈ p, i < ds.length := fun i m => by rw [hl.2]; exact hp i m
  have pv : ∀ i ∈ p, i < vs.length := fun i m => by rw [hl.1]; exact hp i m
  refine ⟨fun j d e => ?_, by rw [permL_len pv, permL_len pd], fun j hj => ?_, fun j => ?_, fun i j a h1 h2 => ?_, fun j a m => ?_⟩
  · rw [permL_get pd] at e
    unfold pf
    cases ej : p[j]? with
    | none => rw [ej] at e; cases e
    | some i =>
      rw [ej] at e
      have e : ds[i]? = some d := e
      obtain ⟨v, k, h1, h2, o⟩ := ownK_get h.own e
      refine ⟨v, by rw [permL_get pv, ej]; exact h1, ?_⟩
      have g : ks.getD j 0 = k := by
        rw [← hk, List.getD_eq_getElem?_getD, permL_get hp, ej]
        show (κs[i]?).getD 0 = k
        rw [h2]; rfl
      rw [g]
      exact o
  · unfold pf
    rw [permL_len pd] at hj
    rw [List.getElem?_eq_none hj]
  · unfold pf
    split
    · exact flat_nd h.nd
    · exact List.nodup_nil
  · unfold pf at h1 h2
    cases ei : p[i]? with
    | none => rw [ei] at h1; cases h1
    | some i' =>
      cases ej : p[j]? with
      | none => rw [ej] at h2; cases h2
      | some j' =>
        rw [ei] at h1
        rw [ej] at h2
        have q := flat_dis h.nd h1 h2
        subst q
        have hi := (List.getElem?_eq_some_iff.mp ei).1
        exact (List.getElem?_inj hi nd).mp (ei.trans ej.symm)
  · unfold pf at m
    split at m
    · exact nz a (flat_mem m)
    · cases m
theorem pf_mem {p : List Nat} {fpl : List (List Addr)} {j : Nat} {a : Addr} (h : a ∈ pf p fpl j) : a ∈ fpl.flatten := by
  unfold pf at h
  split at h
  · exact flat_mem h
  · cases h
/-- behind a call: the frame, and what is held -/
theorem call_back {sg : Sg} {f : Nat → List Addr} {vs : List V} {ios : En} {fr : List Addr} {f' : Nat → List Addr} (C : Cfg G B lk Z σ H Γ en fps) (hc : ∀ j a, a ∈ f j → ∃ o, H a = some o ∧ Chg o) (hz : ∀ j a, a ∈ f j → ¬ Z a) (hd : ∀ j a, a ∈ f j → ∀ i, a ∉ fps i) (hw : ∀ j a, a ∈ f j → B.F a ∨ B.H a = none)
    (x : EndOk G sg H (Zl Z L fps) f vs d ios v Z' H' fr f') :
    Cfg G B lk (fun a => Z' a ∧ ∀ i, a ∉ fps i) σ H' Γ en fps ∧ Held G B L (fun a => Z' a ∧ ∀ i, a ∉ fps i) H' fps sg.κ v d fr ∧
      ∀ j k w d', Own G Z' H' k w d' (f' j) → Held G B L (fun a => Z' a ∧ ∀ i, a ∉ fps i) H' fps k w d' (f' j) := by
  have kp : ∀ a o, H a = some o → (¬ Chg o ∨ Z a ∨ ∃ i, a ∈ fps i) → H' a = some o := fun a o e c => x.keep a o e fun j m => by
    rcases c with c | c | ⟨i, c⟩
    · obtain ⟨o', e', c'⟩ := hc j a m
      rw [e] at e'; cases e'; exact c c'
    · exact hz j a m c
    · exact hd j a m i c
  have low : ∀ a, Z' a → Zl (fun a => Z' a ∧ ∀ i, a ∉ fps i) L fps a := fun a z => by
    by_cases q : ∃ i, a ∈ fps i
    · obtain ⟨i, q⟩ := q
      rcases x.zn a z with (y | ⟨l, hl, y⟩) | ⟨j, y⟩ | y
      · exact absurd y (C.nz i a q)
      · exact .inr ⟨l, hl, y⟩
      · exact absurd q (hd j a y i)
      · obtain ⟨o, e, _⟩ := C.chg q
        rw [e] at y; cases y
    · exact .inl ⟨z, fun i m => q ⟨i, m⟩⟩
  have tr : ∀ a, (∃ j, a ∈ f j) ∨ H a = none → (∀ i, a ∉ fps i) ∧ (B.F a ∨ B.H a = none) := fun a h => by
    rcases h with ⟨j, m⟩ | e
    · exact ⟨hd j a m, hw j a m⟩
    · refine ⟨fun i m => ?_, C.none_of e⟩
      obtain ⟨o, e2, _⟩ := C.chg m
      rw [e] at e2; cases e2
  refine ⟨⟨C.bok, C.len, fun i d e => ?_, C.emp, C.nd, C.dis, fun i a m z => z.2 i m, fun a z => x.zt a z.1, fun a o e n => ?_, C.newf, C.lkd, fun i a y => ?_, fun a z => ⟨x.zb a (.inl (C.zb a z)), fun i m => C.nz i a m (C.zb a z)⟩, fun a z => ?_, C.pin⟩, ⟨x.own.monoZ low, x.nd, fun a m z => x.nz a m z.1, fun a m => (tr a (x.nw a m)).1, fun a m => (tr a (x.nw a m)).2⟩, fun j k w d' o => ⟨o.monoZ low, x.ind j, fun a m z => x.inz j a m z.1, fun a m => (tr a (x.inw j a m)).1, fun a m => (tr a (x.inw j a m)).2⟩⟩
  · obtain ⟨v, h1, h2⟩ := C.rep i d e
    exact ⟨v, h1, own_keep (fun a o e n => kp a o e (.inl n)) (fun a z => ⟨⟨x.zb a (.inl z), fun i m => C.nz i a m z⟩, fun o e => kp a o e (.inr (.inl z))⟩) h2 fun a m o e => kp a o e (.inr (.inr ⟨i, m⟩))⟩
  · refine x.keep a o (C.keep a o e n) fun j m => ?_
    rcases hw j a m with y | y
    · exact n y
    · rw [e] at y; cases y
  · rcases C.lks i a y with z | z
    · exact .inl ⟨x.zb a (.inl z), fun j m => C.nz j a m z⟩
    · exact .inr z
  · rcases x.zn a z.1 with (y | ⟨i, _, y⟩) | ⟨j, y⟩ | y
    · exact C.zn a y
    · exact absurd y (z.2 i)
    · exact (hw j a y).elim (fun q => .inr (.inl q)) fun q => .inr (.inr (.inr q))
    · exact (C.none_of y).elim (fun q => .inr (.inl q)) fun q => .inr (.inr (.inr q))
theorem call_exc {f : Nat → List Addr} {c : Str} {x : D} {Cc dd : Addr} (C : Cfg G B lk Z σ H Γ en fps) (hw : ∀ j a, a ∈ f j → B.F a ∨ B.H a = none) (y : XOk G (bsF H (Zl Z L fps) f []) H' c x Cc dd) : XOk G B H' c x Cc dd := by
  obtain ⟨v, Z', e, o, zb, zn, zt⟩ := y.ex
  have fr : ∀ a, B.F a ∨ B.H a = none → B.Z a ∨ B.F a ∨ (∃ i, B.Lk i a) ∨ B.H a = none := fun a h => h.elim (fun q => .inr (.inl q)) fun q => .inr (.inr (.inr q))
  refine ⟨y.cls, ⟨v, Z', e, o, fun a z => zb a (.inl (C.zb a z)), fun a z => ?_, zt⟩, fun a o e n => y.keep a o (C.keep a o e n) fun ⟨j, m⟩ => ?_⟩
  · rcases zn a z with (q | ⟨i, _, q⟩) | ⟨j, q⟩ | ⟨_, q⟩ | q
    · exact C.zn a q
    · rcases C.newf i a q with q | q | q
      · exact .inr (.inl q)
      · exact .inr (.inr (.inl ⟨i, q⟩))
      · exact .inr (.inr (.inr q))
    · exact fr a (hw j a q)
    · exact q.elim
    · exact fr a (C.none_of q)
  · rcases hw j a m with q | q
    · exact n q
    · rw [e] at q; cases q
def mCall (F : List D → FRes) (p : List Nat) (ms : AM) : EM := fun en => match ms en with
  | .ok ds en' => match F (permL p ds) with
    | .ok d _ => .ok d en'
    | .exc c x => .exc c x
    | .bad => .bad
  | .exc c x => .exc c x
  | .bad => .bad
/-- the slot i is given by reference for the parameter j -/
def mCallR (F : List D → FRes) (p : List Nat) (i j : Nat) (ms : AM) : EM := fun en => match ms en with
  | .ok ds en' => match F (permL p ds) with
    | .ok d ios => match ios[j]? with
      | some (some d') => .ok d (en'.set i (some d'))
      | _ => .bad
    | .exc c x => .exc c x
    | .bad => .bad
  | .exc c x => .exc c x
  | .bad => .bad
theorem call_run {sg : Sg} {F : List D → FRes} {p : List Nat} {Q : VK} (hp : ∀ i ∈ p, i < κs.length) (nd : p.Nodup) (hk : permL p κs = sg.ks) (C : Cfg G B lk Z σ H Γ en fps) (o : OutE G B W lk sg.κ L Γ' σ Q (mCall F p ms en)) :
    tC G W lk Γ κs sl L Γ' ms σ H fun vs H1 => vs.length = κs.length ∧ spI G sg F (permL p vs) H1 Q (WE W σ) := by
  refine ⟨B, Z, en, fps, C, ?_⟩
  unfold mCall at o
  cases e : ms en with
  | bad => rw [e] at o; exact o
  | exc c x => rw [e] at o; exact o
  | ok ds en' =>
    rw [e] at o
    dsimp only at o
    intro vs Z1 H1 fps1 fpl C1 h1 s1
    have nz : ∀ a ∈ fpl.flatten, ¬ Zl Z1 L fps1 a := fun a m z => z.elim (h1.nz a m) fun ⟨i, _, q⟩ => h1.ds a m i q
    have A := args_h h1 nz hp nd hk
    have hl := h1.own.len
    refine ⟨hl.1, by rw [permL_len (fun i m => by rw [hl.1]; exact hp i m), ← hk, permL_len hp], Zl Z1 L fps1, permL p ds, pf p fpl, fun a z => ?_, A, ?_⟩
    · rcases z with z | ⟨i, _, z⟩
      · exact C1.zt a z
      · obtain ⟨o, e, _⟩ := C1.chg z
        exact ⟨o, e⟩
    · cases ef : F (permL p ds) with
      | bad => rw [ef] at o; exact o
      | exc c x => rw [ef] at o; exact fun Cc dd H' y => o Cc dd H' (call_exc C1 (fun j a m => h1.nw a (pf_mem m)) y)
      | ok d ios =>
        rw [ef] at o
        intro v Z' H' fr f' x
        obtain ⟨D1, D2, _⟩ := call_back C1 (fun j a m => h1.own.chg a (pf_mem m)) (fun j a m => h1.nz a (pf_mem m)) (fun j a m => h1.ds a (pf_mem m)) (fun j a m => h1.nw a (pf_mem m)) x
        exact o v _ H' _ fr D1 D2
theorem call_runR {sg : Sg} {F : List D → FRes} {p : List Nat} {i j l k : Nat} {Q : VK} (hp : ∀ i ∈ p, i < κs.length) (nd : p.Nodup) (hk : permL p κs = sg.ks) (hj : p[j]? = some l) (hs : sl[l]? = some (some i)) (hio : sg.io.getD j none = some k) (hi : i ∉ lk) (hΓ : i < Γ1.length) (hΓ2 : Γ1.set i k = Γ')
    (C : Cfg G B lk Z σ H Γ en fps) (o : OutE G B W lk sg.κ [] Γ' σ Q (mCallR F p i j ms en)) :
    tC G W lk Γ κs sl [] Γ1 ms σ H fun vs H1 => vs.length = κs.length ∧ spI G sg F (permL p vs) H1 Q (WE W σ) := by
  refine ⟨B, Z, en, fps, C, ?_⟩
  unfold mCallR at o
  cases e : ms en with
  | bad => rw [e] at o; exact o
  | exc c x => rw [e] at o; exact o
  | ok ds en' =>
    rw [e] at o
    dsimp only at o
    intro vs Z1 H1 fps1 fpl C1 h1 s1
    have nz : ∀ a ∈ fpl.flatten, ¬ Zl Z1 [] fps1 a := fun a m z => z.elim (h1.nz a m) fun ⟨i, _, q⟩ => h1.ds a m i q
    have A := args_h h1 nz hp nd hk
    have hl := h1.own.len
    have pv : ∀ i ∈ p, i < vs.length := fun i m => by rw [hl.1]; exact hp i m
    refine ⟨hl.1, by rw [permL_len pv, ← hk, permL_len hp], Zl Z1 [] fps1, permL p ds, pf p fpl, fun a z => ?_, A, ?_⟩
    · rcases z with z | ⟨i, _, z⟩
      · exact C1.zt a z
      · obtain ⟨o, e, _⟩ := C1.chg z
        exact ⟨o, e⟩
    · cases ef : F (permL p ds) with
      | bad => rw [ef] at o; exact o
      | exc c x => rw [ef] at o; exact fun Cc dd H' y => o Cc dd H' (call_exc C1 (fun j a m => h1.nw a (pf_mem m)) y)
      | ok d ios =>
        rw [ef] at o
        dsimp only at o
        intro v Z' H' fr f' x
        obtain ⟨D1, D2, D3⟩ := call_back C1 (fun j a m => h1.own.chg a (pf_mem m)) (fun j a m => h1.nz a (pf_mem m)) (fun j a m => h1.ds a (pf_mem m)) (fun j a m => h1.nw a (pf_mem m)) x
        split at o
        · rename_i d' ej
          obtain ⟨k', w, q1, q2, q3⟩ := x.io j d' ej
          rw [hio] at q1; cases q1
          rw [permL_get pv, hj] at q2
          have q2 : vs[l]? = some w := q2
          obtain ⟨w', q4, q5⟩ := s1 l i hs
          rw [q2] at q4; cases q4
          have Hj := D3 j k w d' q3
          have E := D1.put Hj hi hΓ q5
          rw [hΓ2] at E
          refine o v _ H' _ fr E ⟨D2.own.monoZ fun a z => .inl (Zl_nil.mp z), D2.nd, D2.nz, fun a m l' m' => ?_, D2.nw⟩
          split at m'
          · split at m'
            · exact x.ap j a m' m
            · cases m'
          · exact D2.ds a m l' m'
        · exact o.elim
variable {fa : Addr} {fd : FuncData} {ps kn : List Str} {k : Nat} {x : Str} {p0 : Pos} {sg : Sg} {F : List D → FRes} {pm : List Nat} {nu : Nat}
theorem run_kb {CX : CXT} {sp : Sp} {E : St → XK} {pins : List (Addr × Obj)} {s : Shared} {Q : VK} {us ws : List Value} {vs zs : List V} (Fo : FnG X.prog X.w X.K X.mg X.base CX k fa fd ps sp) (hgd : X.A.guards = some []) (hr : Room k X.A) (hb : KB X.K fd ps nu kn pm) (hx : PassesAt CX X σ (E σ))
    (I : Inv X pins σ H s) (r : Vals vs us) (rz : Vals zs ws) (h1 : us.length = nu) (h2 : ws.length = kn.length) (h : sp (permL pm (vs ++ zs)) H Q (E σ)) : wpAny (model X.prog X.w) X.A (call (.ref fa) us (kn.zip ws)) (EP X pins σ Q) X.xe s := by
  have r2 := vals_perm (r.append rz) pm
  refine wpAny_call (codeAny_mono (Fo.run X.A X.stack s H ⟨us, kn.zip ws⟩ (permL pm (us ++ ws)) (permL pm (vs ++ zs)) Q (E σ) hgd hr I.env0 (hb s us ws I.kIn h1 h2) r2 h) fun r s' hq => ?_)
  cases r with
  | error e => exact hx pins H s e s' I hq
  | ok fl =>
    cases fl with
    | ret u => exact I.after hq
    | next => exact False.elim hq
    | brk => exact False.elim hq
    | cont => exact False.elim hq
/-- that this call's value is m' -/
def CallM (G : GI) (W : WX) (lk Γ : List Nat) (κs : List Nat) (sl : List (Option Nat)) (La Γ1 : List Nat) (ms : AM) (sg : Sg) (F : List D → FRes) (p : List Nat) (L Γ' : List Nat) (m' : EM) : Prop :=
  ∀ σ H Q, tE G W lk Γ sg.κ L Γ' m' σ H Q → tC G W lk Γ κs sl La Γ1 ms σ H fun vs H1 => vs.length = κs.length ∧ spI G sg F (permL p vs) H1 Q (WE W σ)
theorem cm_n {p : List Nat} (hp : ∀ i ∈ p, i < κs.length := by decide) (nd : p.Nodup := by decide) (hk : permL p κs = sg.ks := by decide) : CallM G W lk Γ κs sl L Γ' ms sg F p L Γ' (mCall F p ms) :=
  fun σ H Q ⟨B, Z, en, fps, C, o⟩ => call_run hp nd hk C o
theorem cm_r {p : List Nat} (i j l k : Nat) (hp : ∀ i ∈ p, i < κs.length := by decide) (nd : p.Nodup := by decide) (hk : permL p κs = sg.ks := by decide) (hj : p[j]? = some l := by decide) (hs : sl[l]? = some (some i) := by decide) (hio : sg.io.getD j none = some k := by decide) (hi : i ∉ lk := by decide) (hΓ : i < Γ1.length := by decide) (hΓ2 : Γ1.set i k = Γ' := by decide) :
    CallM G W lk Γ κs sl [] Γ1 ms sg F p [] Γ' (mCallR F p i j ms) :=
  fun σ H Q ⟨B, Z, en, fps, C, o⟩ => call_runR hp nd hk hj hs hio hi hΓ hΓ2 C o
def mApp (ms mk : AM) : AM := fun en => match ms en with
  | .ok ds en1 => match mk en1 with
    | .ok es en2 => .ok (ds ++ es) en2
    | .exc c x => .exc c x
    | .bad => .bad
  | .exc c x => .exc c x
  | .bad => .bad
theorem OwnK.app : ∀ {ks kt : List Nat} {vs ws : List V} {ds es : List D} {f g : List (List Addr)}, OwnK G Z H ks vs ds f → OwnK G Z H kt ws es g → OwnK G Z H (ks ++ kt) (vs ++ ws) (ds ++ es) (f ++ g)
  | _, _, _, _, _, _, _, _, .nil, h => h
  | _, _, _, _, _, _, _, _, .cons h t, g => .cons h (t.app g)
theorem HeldK.stay {vs : List V} {ds : List D} {fpl : List (List Addr)} (h : HeldK G B L Z H fps κs vs ds fpl) (C : Cfg G B lk Z σ H Γ en fps) (hl : ∀ i ∈ lk, i ∈ lk') (hL : ∀ i ∈ L, i ∈ lk') (D : Cfg G (rb H Z lk' fps B.pins) lk' Z' σ' H' Γ' en' fps') : HeldK G B L Z' H' fps' κs vs ds fpl := by
  obtain ⟨s1, s2, s3⟩ := stay_all C hl hL D
  obtain ⟨t1, t2⟩ := fp_stay C D hl h.own.chg h.nz h.ds
  exact ⟨ownK_keep s1 s2 h.own fun a ha => s3 a (h.ds a ha), h.nd, t1, t2, h.nw⟩
theorem tC_app {Q : List V → Hp → Prop} (h : tC G W lk Γ (κs ++ κt) (sl ++ sk) (La ++ Lb) Γ2 (mApp ms mk) σ H Q) (hs : sl.length = κs.length) :
    tC G W lk Γ κs sl La Γ1 ms σ H fun vs H1 => vs.length = κs.length ∧ tC G W (La ++ lk) Γ1 κt sk Lb Γ2 mk σ H1 fun zs H2 => Q (vs ++ zs) H2 := by
  obtain ⟨B, Z, en, fps, C, o⟩ := h
  refine ⟨B, Z, en, fps, C, ?_⟩
  unfold mApp at o
  cases ea : ms en with
  | bad => rw [ea] at o; exact o.elim
  | exc c x => rw [ea] at o; exact o
  | ok d1 en1 =>
    rw [ea] at o
    dsimp only at o
    intro v1 Z1 H1 fps1 fp1 C1 h1 s1
    have hlen := h1.own.len.1
    refine ⟨hlen, rb H1 Z1 (La ++ lk) fps1 B.pins, Z1, en1, fps1, C1.rebase _, ?_⟩
    have hl : ∀ i ∈ lk, i ∈ La ++ lk := fun i h => List.mem_append_right _ h
    have hL : ∀ i ∈ La, i ∈ La ++ lk := fun i h => List.mem_append_left _ h
    cases eb : mk en1 with
    | bad => rw [eb] at o; exact o.elim
    | exc c x => rw [eb] at o; exact fun Cc dd H' x => o _ _ _ (x.comp C1 hl)
    | ok ds en2 =>
      rw [eb] at o
      intro vs Z2 H2 fps2 fpl C2 h2 s2
      have k1 := h1.stay C1 hl hL C2
      have k2 := HeldK.comp C1 hl h2
      have ap := held_apart C1 h1.own.chg h1.ds h2.nw
      refine o (v1 ++ vs) Z2 H2 fps2 (fp1 ++ fpl) (C1.comp hl C2) ⟨(k1.own.monoZ fun a z => ?_).app (k2.own.monoZ fun a z => ?_), ?_, fun a h => ?_, fun a h => ?_, fun a h => ?_⟩ (fun j i q => ?_)
      · exact z.elim .inl fun ⟨i, m, q⟩ => .inr ⟨i, List.mem_append_left _ m, q⟩
      · exact z.elim .inl fun ⟨i, m, q⟩ => .inr ⟨i, List.mem_append_right _ m, q⟩
      · rw [List.flatten_append, List.nodup_append]
        exact ⟨k1.nd, k2.nd, fun x hx y hy e => ap x hx (e ▸ hy)⟩
      · rw [List.flatten_append] at h; rcases List.mem_append.mp h with h | h
        · exact k1.nz a h
        · exact k2.nz a h
      · rw [List.flatten_append] at h; rcases List.mem_append.mp h with h | h
        · exact k1.ds a h
        · exact k2.ds a h
      · rw [List.flatten_append] at h; rcases List.mem_append.mp h with h | h
        · exact k1.nw a h
        · exact k2.nw a h
      · by_cases hj : j < sl.length
        · rw [List.getElem?_append_left hj] at q
          obtain ⟨v, e1, e2⟩ := s1 j i q
          exact ⟨v, by rw [List.getElem?_append_left (by omega)]; exact e1, e2⟩
        · rw [List.getElem?_append_right (by omega)] at q
          obtain ⟨v, e1, e2⟩ := s2 _ i q
          exact ⟨v, by rw [List.getElem?_append_right (by omega), hlen, ← hs]; exact e1, e2⟩
variable {L' : List Nat} {m' : EM}
/-- f(e, ..) -/
theorem ei_call (Fo : FnG X.prog X.w X.K X.mg X.base (L2.CX X.prog X.w) k fa fd ps (spI G sg F)) (hgd : X.A.guards = some []) (hr : Room k X.A) (hg : Gl X x) (hm : X.mg x = some (.ref fa)) (hk : PySem.W.keepIn X.K (.ref fa) = true) (hb : KB X.K fd ps nu [] pm) (tk : Takes X W) (ha : CI X G W lk Γ (e :: es) κs sl La Γ1 ms) (hc : CallM G W lk Γ κs sl La Γ1 ms sg F pm L Γ' m') (hn : κs.length = nu := by rfl)
    (hdb : (x == ("__debug__" : Str)) = false := by decide) (he : starEach (e :: es) X.env = (false, eval e X.env) :: starEach es X.env := by rfl) (hpl : (backTo pos (starEach es X.env)).any (·.1) = false := by rfl) :
    EI X G W lk Γ (.Call (.Name x p0) (e :: es) [] pos) sg.κ L Γ' m' := by
  refine ⟨fun pins s σ H Q I h => ?_⟩
  refine wpAny_Call_Name_kw (ld_glob I hg hm ?_ hdb)
  refine PySem.W.callWith_K (h₀ := X.base) I.ok.mod.kin hk (thn (ha.run pos pins s σ H _ I (hc σ H Q h)) fun us s1 ⟨vs, H1, I1, r, hl, q⟩ => ⟨I1.kIn, ?_⟩) he hpl
  exact run_kb (kn := []) (zs := []) (ws := []) (E := WE W) Fo hgd hr hb (passAt tk σ) I1 r .nil (by show us.length = nu; rw [← r.length, hl, hn]) rfl (by rw [List.append_nil]; exact q)
/-- f() -/
theorem ei_call0 (Fo : FnG X.prog X.w X.K X.mg X.base (L2.CX X.prog X.w) k fa fd ps (spI G sg F)) (hgd : X.A.guards = some []) (hr : Room k X.A) (hg : Gl X x) (hm : X.mg x = some (.ref fa)) (hk : PySem.W.keepIn X.K (.ref fa) = true) (hb : KB X.K fd ps 0 [] pm) (tk : Takes X W) (hc : CallM G W lk Γ [] [] [] Γ mNil sg F pm L Γ' m')
    (hdb : (x == ("__debug__" : Str)) = false := by decide) :
    EI X G W lk Γ (.Call (.Name x p0) [] [] pos) sg.κ L Γ' m' := by
  refine ⟨fun pins s σ H Q I h => ?_⟩
  refine wpAny_Call_Name_kw (ld_glob I hg hm ?_ hdb)
  have q := tC_nil (hc σ H Q h)
  exact PySem.W.callWith_K0 I.kIn hk (run_kb (us := []) (vs := []) (kn := []) (zs := []) (ws := []) (E := WE W) Fo hgd hr hb (passAt tk σ) I .nil .nil rfl rfl q.2)
/-- f(e, .., k = v, ..) -/
theorem ei_callK (Fo : FnG X.prog X.w X.K X.mg X.base (L2.CX X.prog X.w) k fa fd ps (spI G sg F)) (hgd : X.A.guards = some []) (hr : Room k X.A) (hg : Gl X x) (hm : X.mg x = some (.ref fa)) (hk : PySem.W.keepIn X.K (.ref fa) = true) (hb : KB X.K fd ps nu kn pm) (tk : Takes X W) (ha : CI X G W lk Γ (e :: es) κs sl La Γ1 ms) (hkw : KI X G W (La ++ lk) Γ1 kws κt sk Lb Γ2 mk) (hc : CallM G W lk Γ (κs ++ κt) (sl ++ sk) (La ++ Lb) Γ2 (mApp ms mk) sg F pm L Γ' m') (hn : κs.length = nu := by rfl) (hn2 : κt.length = kn.length := by rfl) (hn3 : sl.length = κs.length := by rfl)
    (hall : (backToKw pos (keywordEach kws X.env)).all (·.1.isSome) = true := by rfl) (hks : (backToKw pos (keywordEach kws X.env)).filterMap (·.1) = kn := by rfl)
    (hdb : (x == ("__debug__" : Str)) = false := by decide) (he : starEach (e :: es) X.env = (false, eval e X.env) :: starEach es X.env := by rfl)
    (hpl : ((backTo pos (starEach (e :: es) X.env)).any (·.1) || (backToKw pos (keywordEach kws X.env)).any (·.1.isNone)) = false := by rfl) :
    EI X G W lk Γ (.Call (.Name x p0) (e :: es) kws pos) sg.κ L Γ' m' := by
  refine ⟨fun pins s σ H Q I h => ?_⟩
  refine wpAny_Call_Name_kw (ld_glob I hg hm ?_ hdb)
  refine PySem.W.callWith_KW (h₀ := X.base) I.ok.mod.kin hk hall (thn (ha.run pos pins s σ H _ I (tC_app (hc σ H Q h) hn3)) fun us s1 ⟨vs, H1, I1, r, hl, q⟩ => ?_) hpl he
  refine thn (hkw.run pos pins s1 σ H1 _ I1 q) fun ws s2 ⟨zs, H2, I2, rz, hl2, q2⟩ => ⟨I2.kIn, ?_⟩
  rw [hks]
  rw [List.length_append, List.length_append, hl] at hl2
  exact run_kb (E := WE W) Fo hgd hr hb (passAt tk σ) I2 r rz (by show us.length = nu; rw [← r.length, hl, hn]) (by rw [← rz.length]; omega) q2
/-- f(k = v, ..) -/
theorem ei_callK0 (Fo : FnG X.prog X.w X.K X.mg X.base (L2.CX X.prog X.w) k fa fd ps (spI G sg F)) (hgd : X.A.guards = some []) (hr : Room k X.A) (hg : Gl X x) (hm : X.mg x = some (.ref fa)) (hk : PySem.W.keepIn X.K (.ref fa) = true) (hb : KB X.K fd ps 0 kn pm) (tk : Takes X W) (hkw : KI X G W lk Γ kws κt sk Lb Γ2 mk) (hc : CallM G W lk Γ κt sk Lb Γ2 mk sg F pm L Γ' m') (hn2 : κt.length = kn.length := by rfl)
    (hall : (backToKw pos (keywordEach kws X.env)).all (·.1.isSome) = true := by rfl) (hks : (backToKw pos (keywordEach kws X.env)).filterMap (·.1) = kn := by rfl)
    (hdb : (x == ("__debug__" : Str)) = false := by decide)
    (hpl : ((backTo pos (starEach [] X.env)).any (·.1) || (backToKw pos (keywordEach kws X.env)).any (·.1.isNone)) = false := by rfl) :
    EI X G W lk Γ (.Call (.Name x p0) [] kws pos) sg.κ L Γ' m' := by
  refine ⟨fun pins s σ H Q I h => ?_⟩
  refine wpAny_Call_Name_kw (ld_glob I hg hm ?_ hdb)
  refine PySem.W.callWith_KW0 (h₀ := X.base) I.ok.mod.kin hk hall ?_ hpl
  refine thn (hkw.run pos pins s σ H _ I (hc σ H Q h)) fun ws s2 ⟨zs, H2, I2, rz, hl2, q2⟩ => ⟨I2.kIn, ?_⟩
  rw [hks]
  exact run_kb (us := []) (vs := []) (E := WE W) Fo hgd hr hb (passAt tk σ) I2 .nil rz rfl (by rw [← rz.length]; omega) q2
end
end Im
/-! Lists that are changed: append, pop, store. -/
namespace Im
open PySem PySem.Spec PyProof.Rows L2
section
variable {G : GI} {B B' : Bs} {W : WX} {lk lk' L L' La Lb : List Nat} {Z Z' : Addr → Prop} {σ σ' : St} {H H' : Hp} {Γ Γ' Γ1 Γ2 Γ3 : List Nat} {en en' : En} {fps fps' : Nat → List Addr} {κ κ' k : Nat} {κs : List Nat} {v : V} {d : D} {ro : RO}
variable {X : Cx} {pos : Pos} {m ma mb : EM} {e a b : Expr}
theorem OwnL.split : ∀ {vs : List V} {ds : List D} {fp : List Addr} {j : Nat} {d : D}, OwnL G Z H k vs ds fp → ds[j]? = some d → ∃ v f1 f2 f3, vs[j]? = some v ∧ fp = f1 ++ (f2 ++ f3) ∧ OwnL G Z H k (vs.take j) (ds.take j) f1 ∧ Own G Z H k v d f2 ∧ OwnL G Z H k (vs.drop (j + 1)) (ds.drop (j + 1)) f3 := by
  intro vs
  induction vs with
  | nil => intro ds fp j d h e; cases h; simp at e
  | cons v vs ih =>
    intro ds fp j d h e
    cases h with
    | cons h1 h2 =>
      cases j with
      | zero =>
        simp only [List.getElem?_cons_zero, Option.some.injEq] at e
        subst e
        exact ⟨v, [], _, _, rfl, rfl, .nil, h1, h2⟩
      | succ j =>
        obtain ⟨w, f1, f2, f3, q1, rfl, q3, q4, q5⟩ := ih h2 (by simpa using e)
        exact ⟨w, _ ++ f1, f2, f3, by simpa using q1, by rw [List.append_assoc], .cons h1 q3, q4, q5⟩
theorem Cfg.mut {i : Nat} {a : Addr} {vs' : List V} {ds' : List D} {fp1 fp2 : List Addr} (C : Cfg G B lk Z σ H Γ en fps) (hv : σ[i]? = some (some (.ref a))) (hk : Γ.getD i 0 = k + 1) (hf : fps i = a :: fp1) (ho : ∃ vs, H a = some (.lst vs)) (hi : i ∉ lk)
    (own : OwnL G Z H k vs' ds' fp2) (nd : fp2.Nodup) (na : a ∉ fp2) (nz : ∀ b ∈ fp2, ¬ Z b) (ds : ∀ b ∈ fp2, ∀ j, j ≠ i → b ∉ fps j) (nw : ∀ b ∈ fp2, B.F b ∨ B.H b = none) :
    Cfg G B lk Z σ (upd H a (.lst vs')) Γ (en.set i (some (.lst ds'))) (fun j => if j = i then a :: fp2 else fps j) := by
  have ai : a ∈ fps i := by rw [hf]; exact List.mem_cons_self
  obtain ⟨vs, ho⟩ := ho
  have hil : i < en.length := by
    obtain ⟨d, _, e, _⟩ := C.fin ai
    exact (List.getElem?_eq_some_iff.mp e).1
  have az : ¬ Z a := C.nz i a ai
  have keepI : StayI H (upd H a (.lst vs')) := fun b o q n => upd_at q fun z => by subst z; rw [ho] at q; cases q; exact n trivial
  have keepZ : ∀ b, Z b → Z b ∧ ∀ o, H b = some o → upd H a (.lst vs') b = some o := fun b z => ⟨z, fun o q => upd_at q fun (y : b = a) => az (y ▸ z)⟩
  have an : B.F a ∨ B.H a = none := by
    rcases C.newf i a ai with y | y | y
    · exact .inl y
    · exact absurd (C.bok.lki i a y) hi
    · exact .inr y
  exact {
    bok := C.bok
    len := by rw [List.length_set]; exact C.len
    rep := fun j d e => by
      by_cases hj : j = i
      · subst hj
        rw [List.getElem?_set_self hil] at e
        cases e
        refine ⟨.ref a, hv, ?_⟩
        rw [if_pos rfl, hk]
        exact .own upd_same (ownL_keep keepI keepZ own fun b m o q => upd_at q fun (y : b = a) => na (y ▸ m))
      · rw [List.getElem?_set_ne (Ne.symm hj)] at e
        obtain ⟨v, h1, h2⟩ := C.rep j d e
        refine ⟨v, h1, ?_⟩
        rw [if_neg hj]
        exact own_keep keepI keepZ h2 fun b m o q => upd_at q fun (y : b = a) => hj (C.dis j i a (y ▸ m) ai)
    emp := fun j e => by
      by_cases hj : j = i
      · subst hj
        exact absurd (List.getElem?_set_self hil) (e (.lst ds'))
      · rw [if_neg hj]
        exact C.emp j fun d q => e d (by rw [List.getElem?_set_ne (Ne.symm hj)]; exact q)
    nd := fun j => by
      by_cases hj : j = i
      · rw [if_pos hj]; exact List.nodup_cons.mpr ⟨na, nd⟩
      · rw [if_neg hj]; exact C.nd j
    dis := fun j l b h h' => by
      by_cases hj : j = i
      · rw [if_pos hj] at h
        by_cases hl : l = i
        · rw [hj, hl]
        · rw [if_neg hl] at h'
          rcases List.mem_cons.mp h with rfl | h
          · exact absurd (C.dis l i _ h' ai) hl
          · exact absurd h' (ds b h l hl)
      · rw [if_neg hj] at h
        by_cases hl : l = i
        · rw [if_pos hl] at h'
          rcases List.mem_cons.mp h' with rfl | h'
          · exact absurd (C.dis j i _ h ai) hj
          · exact absurd h (ds b h' j hj)
        · rw [if_neg hl] at h'
          exact C.dis j l b h h'
    nz := fun j b h => by
      split at h
      · rcases List.mem_cons.mp h with rfl | h
        · exact az
        · exact nz b h
      · exact C.nz j b h
    zt := fun b z => by
      obtain ⟨o, q⟩ := C.zt b z
      exact ⟨o, upd_at q fun (y : b = a) => az (y ▸ z)⟩
    keep := fun b o q n => upd_at (C.keep b o q n) fun (y : b = a) => by
      subst y
      rcases an with y | y
      · exact n y
      · rw [q] at y; cases y
    newf := fun j b h => by
      split at h
      · rcases List.mem_cons.mp h with rfl | h
        · exact an.elim .inl fun y => .inr (.inr y)
        · exact (nw b h).elim .inl fun y => .inr (.inr y)
      · exact C.newf j b h
    lkd := fun j l b h y => by
      have hl : l ≠ i := fun q => hi (q ▸ C.bok.lki l b y)
      split at h
      · rename_i hj
        rcases List.mem_cons.mp h with rfl | h
        · rw [hj]; exact C.lkd i l _ ai y
        · rcases C.lks l b y with z | z
          · exact absurd z (nz b h)
          · exact absurd z (ds b h l hl)
      · exact C.lkd j l b h y
    lks := fun j b y => by
      have hj : j ≠ i := fun q => hi (q ▸ C.bok.lki j b y)
      rw [if_neg hj]
      exact C.lks j b y
    zb := C.zb
    zn := C.zn
    pin := C.pin }
/-- the list that the slot i owns -/
theorem Cfg.lst_at {i : Nat} {ds : List D} (C : Cfg G B lk Z σ H Γ en fps) (hk : Γ.getD i 0 = k + 1) (e : en[i]? = some (some (.lst ds))) : ∃ a vs fp, σ[i]? = some (some (.ref a)) ∧ H a = some (.lst vs) ∧ OwnL G Z H k vs ds fp ∧ fps i = a :: fp := by
  obtain ⟨v, h1, h2⟩ := C.rep i _ e
  rw [hk] at h2
  obtain ⟨a, vs, fp, rfl, h3, h4, h5⟩ := own_lstS h2
  exact ⟨a, vs, fp, h1, h3, h4, h5⟩
def atL (i : Nat) (en : En) : Option (List D) := match en[i]? with
  | some (some (.lst ds)) => some ds
  | _ => none
theorem atL_of {i : Nat} {ds : List D} (h : atL i en = some ds) : en[i]? = some (some (.lst ds)) := by
  unfold atL at h
  split at h
  · rename_i q; cases h; exact q
  · cases h
def mAppend (i : Nat) (m : EM) : EM := fun en => match atL i en with
  | some _ => match m en with
    | .ok d en2 => match atL i en2 with
      | some ds => if ds.length < lim then .ok .non (en2.set i (some (.lst (ds ++ [d])))) else .bad
      | none => .bad
    | .exc c x => .exc c x
    | .bad => .bad
  | none => .bad
theorem ei_append {i : Nat} {x : Str} {p apos : Pos} (hN : X.N[i]? = some x) (hv : Vis X.env.scope x) (hk : Γ.getD i 0 = κ + 1) (hk1 : Γ1.getD i 0 = κ + 1) (he : EI X G W lk Γ e κ [] Γ1 m) (hi : i ∉ lk := by decide) (hd : (x == ("__debug__" : Str)) = false := by decide) (hcd : (x == ("__classdict__" : Str)) = false := by decide)
    (hbase : attributeBase (.Name x p) "append" X.env (eval (.Name x p) X.env) = eval (.Name x p) X.env := by rfl)
    (hfew : ((backTo pos (starEach (e :: []) X.env)).all (fun x => !x.1) && (backToKw pos (keywordEach [] X.env)).all (fun x => x.1.isSome)
      && decide ((e :: ([] : List Expr)).length + ([] : List Keyword).length + (if ([] : List Keyword).isEmpty then 0 else 1) < 30)) = true := by rfl)
    (hline : (apos.endLine == pos.line) = true := by rfl) (hs : starEach (e :: []) X.env = (false, eval e X.env) :: starEach [] X.env := by rfl) :
    EI X G W lk Γ (.Call (.Attribute (.Name x p) "append" apos) [e] [] pos) κ' [] Γ1 (mAppend i m) :=
  PE.imp (pe_bm PySem.F.plainAttrs_list PySem.F.slot_list_append PySem.F.type_list_append mt_append (pe_var hN hv hd hcd) (pa_cons he pa_nil hs) hbase hfew hline hs rfl) fun σ H Q ⟨B, Z, en, fps, C, o⟩ => by
    unfold mAppend at o
    cases e0 : atL i en with
    | none => rw [e0] at o; exact o.elim
    | some ds0 =>
      rw [e0] at o
      obtain ⟨a, vs0, fp0, s1, s2, s3, s4⟩ := C.lst_at hk (atL_of e0)
      refine ⟨.ref a, s1, .inl ⟨rfl, vs0, .inl (.of s2)⟩, B, Z, en, fps, C, ?_⟩
      dsimp only at o
      cases em : m en with
      | bad => rw [em] at o; exact o
      | exc c x => rw [em] at o; exact o
      | ok d en2 =>
        rw [em] at o
        dsimp only at o
        intro y Z2 H2 fps2 fpy C2 hy
        cases e2 : atL i en2 with
        | none => rw [e2] at o; exact o.elim
        | some ds =>
          rw [e2] at o
          dsimp only at o
          split at o
          · rename_i hl
            obtain ⟨a', vs, fp, t1, t2, t3, t4⟩ := C2.lst_at hk1 (atL_of e2)
            rw [s1] at t1; cases t1
            have hyO : OwnL G Z2 H2 κ [y] [d] fpy := by
              have q := OwnL.cons (hy.own.monoZ fun a z => Zl_nil.mp z) (OwnL.nil (G := G) (Z := Z2) (H := H2) (k := κ))
              rwa [List.append_nil] at q
            have nd := C2.nd i
            rw [t4] at nd
            have nd' := List.nodup_cons.mp nd
            have mi : ∀ b, b ∈ a :: fp → b ∈ fps2 i := fun b m => t4 ▸ m
            have dy : ∀ b ∈ fpy, ∀ j, b ∉ fps2 j := hy.ds
            have C3 := C2.mut s1 hk1 t4 ⟨vs, t2⟩ hi (t3.append hyO) (List.nodup_append.mpr ⟨nd'.2, hy.nd, fun x hx z hz q => dy z hz i (mi z (List.mem_cons_of_mem _ (q ▸ hx)))⟩)
              (fun q => (List.mem_append.mp q).elim nd'.1 fun q => dy a q i (mi a List.mem_cons_self))
              (fun b m => (List.mem_append.mp m).elim (fun m => C2.nz i b (mi b (List.mem_cons_of_mem _ m))) (hy.nz b))
              (fun b m j hj => (List.mem_append.mp m).elim (fun m q => hj (C2.dis j i b q (mi b (List.mem_cons_of_mem _ m)))) fun m => dy b m j)
              (fun b m => (List.mem_append.mp m).elim (fun m => by
                rcases C2.newf i b (mi b (List.mem_cons_of_mem _ m)) with z | z | z
                · exact .inl z
                · exact absurd (C2.bok.lki i b z) hi
                · exact .inr z) (hy.nw b))
            exact ⟨a, vs, y, rfl, rfl, t2, by rw [t3.len]; exact Nat.lt_of_lt_of_le hl (by decide), o _ _ _ _ [] C3 (.sc .non)⟩
          · exact o.elim
/-- an item taken out -/
theorem Cfg.take_out {i j : Nat} {ds : List D} {d : D} (C : Cfg G B lk Z σ H Γ en fps) (hk : Γ.getD i 0 = k + 1) (e : en[i]? = some (some (.lst ds))) (hj : ds[j]? = some d) (hi : i ∉ lk) :
    ∃ a vs y fp2 f2, σ[i]? = some (some (.ref a)) ∧ H a = some (.lst vs) ∧ vs[j]? = some y ∧ vs.length = ds.length ∧
      Cfg G B lk Z σ (upd H a (.lst (vs.eraseIdx j))) Γ (en.set i (some (.lst (ds.eraseIdx j)))) (fun l => if l = i then a :: fp2 else fps l) ∧
      Held G B [] Z (upd H a (.lst (vs.eraseIdx j))) (fun l => if l = i then a :: fp2 else fps l) k y d f2 := by
  obtain ⟨a, vs, fp, t1, t2, t3, t4⟩ := C.lst_at hk e
  obtain ⟨y, f1, f2, f3, q1, q2, q3, q4, q5⟩ := t3.split hj
  have nd := C.nd i
  rw [t4, q2] at nd
  have nd' := List.nodup_cons.mp nd
  have n1 := List.nodup_append.mp nd'.2
  have n2 := List.nodup_append.mp n1.2.1
  have mi : ∀ b, b ∈ a :: (f1 ++ (f2 ++ f3)) → b ∈ fps i := fun b m => by rw [t4, q2]; exact m
  have m13 : ∀ b, b ∈ f1 ++ f3 → b ∈ a :: (f1 ++ (f2 ++ f3)) := fun b m => List.mem_cons_of_mem _ ((List.mem_append.mp m).elim (fun m => List.mem_append_left _ m) fun m => List.mem_append_right _ (List.mem_append_right _ m))
  have m2 : ∀ b, b ∈ f2 → b ∈ a :: (f1 ++ (f2 ++ f3)) := fun b m => List.mem_cons_of_mem _ (List.mem_append_right _ (List.mem_append_left _ m))
  have nw : ∀ b, b ∈ fps i → B.F b ∨ B.H b = none := fun b m => by
    rcases C.newf i b m with z | z | z
    · exact .inl z
    · exact absurd (C.bok.lki i b z) hi
    · exact .inr z
  have C3 := C.mut t1 hk t4 ⟨vs, t2⟩ hi (vs' := vs.eraseIdx j) (ds' := ds.eraseIdx j) (fp2 := f1 ++ f3) (by rw [List.eraseIdx_eq_take_drop_succ, List.eraseIdx_eq_take_drop_succ]; exact q3.append q5)
    (List.nodup_append.mpr ⟨n1.1, n2.2.1, fun x hx z hz => n1.2.2 x hx z (List.mem_append_right _ hz)⟩) (fun m => nd'.1 ((List.mem_cons.mp (m13 a m)).elim (fun _ => by
      rcases List.mem_append.mp m with m | m
      · exact List.mem_append_left _ m
      · exact List.mem_append_right _ (List.mem_append_right _ m)) id))
    (fun b m => C.nz i b (mi b (m13 b m))) (fun b m l hl q => hl (C.dis l i b q (mi b (m13 b m)))) (fun b m => nw b (mi b (m13 b m)))
  refine ⟨a, vs, y, f1 ++ f3, f2, t1, t2, q1, t3.len, C3, ?_⟩
  have a2 : a ∉ f2 := fun m => nd'.1 (List.mem_append_right _ (List.mem_append_left _ m))
  refine ⟨own_keep (fun b o q n => upd_at q fun z => by subst z; rw [t2] at q; cases q; exact n trivial) (fun b z => ⟨Zl_nil.mpr z, fun o q => upd_at q fun (w : b = a) => C.nz i a (mi a List.mem_cons_self) (w ▸ z)⟩) q4 fun b m o q => upd_at q fun (w : b = a) => a2 (w ▸ m), n2.1, fun b m => C.nz i b (mi b (m2 b m)), fun b m l q => ?_, fun b m => nw b (mi b (m2 b m))⟩
  split at q
  · rcases List.mem_cons.mp q with rfl | q
    · exact a2 m
    · rcases List.mem_append.mp q with q | q
      · exact n1.2.2 b q b (List.mem_append_left _ m) rfl
      · exact n2.2.2 b m b q rfl
  · rename_i hl
    exact hl (C.dis l i b q (mi b (m2 b m)))
def mPop (i : Nat) : EM := fun en => match atL i en with
  | some ds => match ds[ds.length - 1]? with
    | some d => .ok d (en.set i (some (.lst (ds.eraseIdx (ds.length - 1)))))
    | none => .bad
  | none => .bad
theorem ei_pop {i : Nat} {x : Str} {p apos : Pos} (hN : X.N[i]? = some x) (hv : Vis X.env.scope x) (hk : Γ.getD i 0 = κ + 1) (hi : i ∉ lk := by decide) (hd : (x == ("__debug__" : Str)) = false := by decide) (hcd : (x == ("__classdict__" : Str)) = false := by decide)
    (hbase : attributeBase (.Name x p) "pop" X.env (eval (.Name x p) X.env) = eval (.Name x p) X.env := by rfl) (hline : (apos.endLine == pos.line) = true := by rfl) :
    EI X G W lk Γ (.Call (.Attribute (.Name x p) "pop" apos) [] [] pos) κ [] Γ (mPop i) :=
  PE.imp (pe_bm0 PySem.F.plainAttrs_list PySem.F.slot_list_pop PySem.F.type_list_pop mt_pop (pe_var hN hv hd hcd) hbase hline) fun σ H Q ⟨B, Z, en, fps, C, o⟩ => by
    unfold mPop at o
    cases e0 : atL i en with
    | none => rw [e0] at o; exact o.elim
    | some ds =>
      rw [e0] at o
      dsimp only at o
      cases ej : ds[ds.length - 1]? with
      | none => rw [ej] at o; exact o.elim
      | some d =>
        rw [ej] at o
        obtain ⟨a, vs, y, fp2, f2, t1, t2, t3, t4, C3, h3⟩ := C.take_out hk (atL_of e0) ej hi
        refine ⟨.ref a, t1, .inl ⟨rfl, vs, .inl (.of t2)⟩, a, vs, y, rfl, rfl, t2, by rw [t4]; exact t3, ?_⟩
        have q := o y _ _ _ f2 C3 h3
        have e : vs.eraseIdx (ds.length - 1) = vs.dropLast := by
          rw [← t4, List.eraseIdx_eq_take_drop_succ, List.dropLast_eq_take]
          rw [List.drop_eq_nil_of_le (by omega), List.append_nil]
        rw [e] at q
        exact q
def mPopAt (i : Nat) (m : EM) : EM := fun en => match atL i en with
  | some _ => match m en with
    | .ok (.int j) en2 => match atL i en2 with
      | some ds => match ixN ds.length j with
        | some n => match ds[n]? with
          | some d => if ds.length ≤ lim then .ok d (en2.set i (some (.lst (ds.eraseIdx n)))) else .bad
          | none => .bad
        | none => .bad
      | none => .bad
    | .ok _ _ => .bad
    | .exc c x => .exc c x
    | .bad => .bad
  | none => .bad
theorem ixN_bd {n : Nat} {j : Int} {i : Nat} (h : ixN n j = some i) (hn : n ≤ sizeLine) : -(2 ^ 63) ≤ j ∧ j < 2 ^ 63 ∧ seqIndex? j n = some i := by
  obtain ⟨h1, h2, h3, h4⟩ := ixN_seq h
  have hs : sizeLine = 16777216 := sizeLine_eq
  exact ⟨by omega, by omega, h1⟩
theorem ei_popAt {i : Nat} {x : Str} {p apos : Pos} {md : Md} (hN : X.N[i]? = some x) (hv : Vis X.env.scope x) (hk : Γ.getD i 0 = κ + 1) (hk1 : Γ1.getD i 0 = κ + 1) (he : OI X G W lk Γ e md Γ1 m) (hi : i ∉ lk := by decide) (hd : (x == ("__debug__" : Str)) = false := by decide) (hcd : (x == ("__classdict__" : Str)) = false := by decide)
    (hbase : attributeBase (.Name x p) "pop" X.env (eval (.Name x p) X.env) = eval (.Name x p) X.env := by rfl)
    (hfew : ((backTo pos (starEach (e :: []) X.env)).all (fun x => !x.1) && (backToKw pos (keywordEach [] X.env)).all (fun x => x.1.isSome)
      && decide ((e :: ([] : List Expr)).length + ([] : List Keyword).length + (if ([] : List Keyword).isEmpty then 0 else 1) < 30)) = true := by rfl)
    (hline : (apos.endLine == pos.line) = true := by rfl) (hs : starEach (e :: []) X.env = (false, eval e X.env) :: starEach [] X.env := by rfl) :
    EI X G W lk Γ (.Call (.Attribute (.Name x p) "pop" apos) [e] [] pos) κ [] Γ1 (mPopAt i m) :=
  PE.imp (pe_bm PySem.F.plainAttrs_list PySem.F.slot_list_pop PySem.F.type_list_pop mt_popAt (pe_var hN hv hd hcd) (pa_cons he pa_nil hs) hbase hfew hline hs rfl) fun σ H Q ⟨B, Z, en, fps, C, o⟩ => by
    unfold mPopAt at o
    cases e0 : atL i en with
    | none => rw [e0] at o; exact o.elim
    | some ds0 =>
      rw [e0] at o
      obtain ⟨a, vs0, fp0, s1, s2, s3, s4⟩ := C.lst_at hk (atL_of e0)
      refine ⟨.ref a, s1, .inl ⟨rfl, vs0, .inl (.of s2)⟩, B, Z, en, fps, C, ?_⟩
      dsimp only at o
      cases em : m en with
      | bad => rw [em] at o; exact o
      | exc c x => rw [em] at o; exact o
      | ok dj en2 =>
        rw [em] at o
        cases dj with
        | int j =>
          dsimp only at o
          intro y Z2 H2 fps2 C2 hy
          obtain ⟨_, _, _, qy⟩ := Md.any hy
          have ey := own_int qy
          subst ey
          cases e2 : atL i en2 with
          | none => rw [e2] at o; exact o.elim
          | some ds =>
            rw [e2] at o
            dsimp only at o
            cases en_ : ixN ds.length j with
            | none => rw [en_] at o; exact o.elim
            | some n =>
              rw [en_] at o
              dsimp only at o
              cases ed : ds[n]? with
              | none => rw [ed] at o; exact o.elim
              | some d =>
                rw [ed] at o
                obtain ⟨a', vs, z, fp2, f2, t1, t2, t3, t4, C3, h3⟩ := C2.take_out hk1 (atL_of e2) ed hi
                rw [s1] at t1; cases t1
                dsimp only at o
                split at o
                · rename_i hz
                  obtain ⟨b1, b2, b3⟩ := ixN_bd en_ (lim_ok hz)
                  exact ⟨a, vs, j, n, z, rfl, rfl, t2, b1, b2, by rw [t4]; exact b3, t3, o z _ _ _ f2 C3 h3⟩
                · exact o.elim
        | _ => exact o.elim
/-! ### xs[i] = v -/
def gStore (i : Nat) (m : EM) : D → En → Option En := fun d en => match atL i en with
  | some _ => match m en with
    | .ok (.int j) en2 => match atL i en2 with
      | some ds => match ixN ds.length j with
        | some n => some (en2.set i (some (.lst (ds.set n d))))
        | none => none
      | none => none
    | _ => none
  | none => none
theorem OwnL.put {vs : List V} {ds : List D} {fp fv : List Addr} {n : Nat} {v : V} {d : D} (h : OwnL G Z H k vs ds fp) (hv : Own G Z H k v d fv) (hn : n < ds.length) : ∃ f1 f2 f3, fp = f1 ++ (f2 ++ f3) ∧ OwnL G Z H k (vs.set n v) (ds.set n d) (f1 ++ (fv ++ f3)) := by
  obtain ⟨w, f1, f2, f3, _, q2, q3, q4, q5⟩ := h.split (List.getElem?_eq_getElem hn)
  refine ⟨f1, f2, f3, q2, ?_⟩
  rw [List.set_eq_take_append_cons_drop, List.set_eq_take_append_cons_drop, if_pos hn, if_pos (by rw [h.len]; exact hn)]
  exact q3.append (.cons hv q5)
theorem tg_sub {i : Nat} {x : Str} {p : Pos} {md : Md} (hN : X.N[i]? = some x) (hv : Vis X.env.scope x) (hk : Γ.getD i 0 = κ + 1) (he : OI X G WN lk Γ e md Γ m) (hi : i ∉ lk := by decide) (hd : (x == ("__debug__" : Str)) = false := by decide) (hcd : (x == ("__classdict__" : Str)) = false := by decide)
    (ha : ∀ v, assign (.Subscript (.Name x p) e pos) X.env v = (do
      let ov ← holding [v] (eval (.Name x p) X.env)
      let iv ← holding [v, ov] (eval e X.env)
      standAt pos
      holding [v, ov, iv] (setItem ov iv v)
      release [v, ov, iv] []) := by intro _; rfl) : TgI X G lk ro Γ (.Subscript (.Name x p) e pos) κ Γ [] (gStore i m) :=
  PG.imp (pg_sub (pe_var hN hv hd hcd) he set_list ha) fun y σ H Q ⟨B, Z, en, fps, d, fp, P, C, h, o⟩ => by
    unfold gStore at o
    cases e0 : atL i en with
    | none => rw [e0] at o; exact o.elim
    | some ds0 =>
      rw [e0] at o
      dsimp only at o
      obtain ⟨a, vs0, fp0, s1, s2, s3, s4⟩ := C.lst_at hk (atL_of e0)
      refine ⟨.ref a, s1, rb H Z lk fps B.pins, Z, en, fps, C.rebase _, ?_⟩
      cases em : m en with
      | bad => rw [em] at o; exact o.elim
      | exc c x => rw [em] at o; exact o.elim
      | ok dj en2 =>
        rw [em] at o
        cases dj with
        | int j =>
          dsimp only at o
          intro w Z2 H2 fps2 C2b hw
          obtain ⟨_, _, _, qw⟩ := Md.any hw
          have ew := own_int qw
          subst ew
          have C2 := C.comp (fun _ h => h) C2b
          have h2 := h.stay C (fun _ h => h) (fun _ h => nomatch h) C2b
          cases e2 : atL i en2 with
          | none => rw [e2] at o; exact o.elim
          | some ds =>
            rw [e2] at o
            dsimp only at o
            cases en_ : ixN ds.length j with
            | none => rw [en_] at o; exact o.elim
            | some n =>
              rw [en_] at o
              obtain ⟨a', vs, fq, t1, t2, t3, t4⟩ := C2.lst_at hk (atL_of e2)
              rw [s1] at t1; cases t1
              obtain ⟨_, hn, _, _⟩ := ixN_seq en_
              obtain ⟨f1, f2, f3, q1, q2⟩ := t3.put (h2.own.monoZ fun a z => Zl_nil.mp z) hn
              have nd := C2.nd i
              rw [t4, q1] at nd
              have nd' := List.nodup_cons.mp nd
              have n1 := List.nodup_append.mp nd'.2
              have n2 := List.nodup_append.mp n1.2.1
              have mi : ∀ b, b ∈ a :: (f1 ++ (f2 ++ f3)) → b ∈ fps2 i := fun b m => by rw [t4, q1]; exact m
              have i1 : ∀ b ∈ f1, b ∈ fps2 i := fun b m => mi b (List.mem_cons_of_mem _ (List.mem_append_left _ m))
              have i3 : ∀ b ∈ f3, b ∈ fps2 i := fun b m => mi b (List.mem_cons_of_mem _ (List.mem_append_right _ (List.mem_append_right _ m)))
              have cs : ∀ b, b ∈ f1 ++ (fp ++ f3) → b ∈ fp ∨ (b ∈ fps2 i ∧ b ≠ a) := fun b m => by
                rcases List.mem_append.mp m with m | m
                · exact .inr ⟨i1 b m, fun e => nd'.1 (e ▸ List.mem_append_left _ m)⟩
                · rcases List.mem_append.mp m with m | m
                  · exact .inl m
                  · exact .inr ⟨i3 b m, fun e => nd'.1 (e ▸ List.mem_append_right _ (List.mem_append_right _ m))⟩
              have C3 := C2.mut s1 hk t4 ⟨vs, t2⟩ hi q2
                (List.nodup_append.mpr ⟨n1.1, List.nodup_append.mpr ⟨h2.nd, n2.2.1, fun x hx z hz q => h2.ds x hx i (q ▸ i3 z hz)⟩, fun x hx z hz q => (List.mem_append.mp hz).elim (fun hz => h2.ds z hz i (q ▸ i1 x hx)) fun hz => n1.2.2 x hx z (List.mem_append_right _ hz) q⟩)
                (fun m => (cs a m).elim (fun m => h2.ds a m i (mi a List.mem_cons_self)) fun m => m.2 rfl)
                (fun b m => (cs b m).elim (h2.nz b) fun m => C2.nz i b m.1)
                (fun b m l hl => (cs b m).elim (fun m => h2.ds b m l) fun m q => hl (C2.dis l i b q m.1))
                (fun b m => (cs b m).elim (h2.nw b) fun m => by
                  rcases C2.newf i b m.1 with z | z | z
                  · exact .inl z
                  · exact absurd (C2.bok.lki i b z) hi
                  · exact .inr z)
              exact ⟨a, vs, j, n, rfl, rfl, t2, by rw [t3.len]; exact en_, o _ _ _ _ C3 .refl⟩
        | _ => exact o.elim
end
end Im
/-! Operators and built-in functions on plain data. -/
namespace Im
open PySem PySem.Spec PyProof.Rows L2
mutual
def toP : D → Option PyData
  | .non => some .none
  | .bl b => some (.bool b)
  | .int i => some (.int i)
  | .str x => some (.str x)
  | .tup xs => (toPL xs).map .tuple
  | .lst xs => (toPL xs).map .list
  | .scr ns => some (.list (ns.map .int))
  | .edict => none
  | .fn _ => none
  | .exc _ _ => none
  | .clo _ _ => none
  | .tl _ xs => (toPL xs).map .list
def toPL : List D → Option (List PyData)
  | [] => some []
  | x :: xs => match toP x, toPL xs with
    | some a, some b => some (a :: b)
    | _, _ => none
end
section
variable {G : GI} {B B' : Bs} {W : WX} {lk lk' L L' La Lb : List Nat} {Z Z' : Addr → Prop} {σ σ' : St} {H H' : Hp} {Γ Γ' Γ1 Γ2 Γ3 : List Nat} {en en' : En} {fps fps' : Nat → List Addr} {κ κ' k : Nat} {κs : List Nat} {v : V} {d : D} {ro : RO}
variable {X : Cx} {pos : Pos} {m ma mb mc : EM} {e a b c : Expr} {K : PySem.W.Frag}
theorem dpAll_ints : ∀ ns : List Int, DpAll K H (ns.map V.int) (ns.map PyData.int)
  | [] => .nil
  | n :: ns => .cons (.int n) (dpAll_ints ns)
theorem own_dp (hK : G.K = K) {k : Nat} {v : V} {d : D} {fp : List Addr} (h : Own G Z H k v d fp) : ∀ p, toP d = some p → Dp K H v p := by
  induction h using Own.rec (motive_2 := fun k vs ds fp _ => ∀ ps, toPL ds = some ps → DpAll K H vs ps) with
  | non => intro p e; cases e; exact .non
  | bl => intro p e; cases e; exact .bl _
  | int => intro p e; cases e; exact .int _
  | str => intro p e; cases e; exact .str _
  | fn => intro p e; cases e
  | scr s =>
    intro p e; cases e
    exact .lst (hK ▸ s.sq) (dpAll_ints _)
  | ed0 => intro p e; cases e
  | edS => intro p e; cases e
  | lst _ q _ ih =>
    intro p e
    unfold toP at e
    rw [Option.map_eq_some_iff] at e
    obtain ⟨ps, e1, rfl⟩ := e
    exact .lst (.inl (.of q)) (ih ps e1)
  | own q _ ih =>
    intro p e
    unfold toP at e
    rw [Option.map_eq_some_iff] at e
    obtain ⟨ps, e1, rfl⟩ := e
    exact .lst (.inl (.of q)) (ih ps e1)
  | tup q _ ih =>
    intro p e
    unfold toP at e
    rw [Option.map_eq_some_iff] at e
    obtain ⟨ps, e1, rfl⟩ := e
    exact .tup (.inl (.of q)) (ih ps e1)
  | exc => intro p e; cases e
  | clo => intro p e; cases e
  | tag _ _ ih => intro p e; exact ih p e
  | nil => rename_i p e; cases e; exact .nil
  | cons _ _ ih1 ih2 =>
    rename_i ps e
    unfold toPL at e
    split at e
    · rename_i a b e1 e2
      cases e
      exact .cons (ih1 _ e1) (ih2 _ e2)
    · cases e
/-! ### ints -/
def dI2 (g : Int → Int → D) : D → D → Option D
  | .int i, .int j => some (g i j)
  | _, _ => none
def dI2C (C : Int → Int → Bool) (g : Int → Int → D) : D → D → Option D
  | .int i, .int j => if C i j then some (g i j) else none
  | _, _ => none
theorem lk_I0 {g : Int → Int → V} {g' : Int → Int → D} (h : ∀ i j, ScV (g i j) (g' i j)) : Lk2 G (rI0 g) (dI2 g') := by
  intro H v1 v2 d1 d2 d Q ⟨_, _, _, o1⟩ ⟨_, _, _, o2⟩ e q
  unfold dI2 at e
  split at e
  · rename_i i j
    cases e
    exact ⟨i, j, own_int o1, own_int o2, q _ (h i j)⟩
  · cases e
theorem lk_IC {C : Int → Int → Prop} {C' : Int → Int → Bool} {g : Int → Int → V} {g' : Int → Int → D} (hC : ∀ i j, C' i j = true → C i j) (h : ∀ i j, ScV (g i j) (g' i j)) : Lk2 G (rI C g) (dI2C C' g') := by
  intro H v1 v2 d1 d2 d Q ⟨_, _, _, o1⟩ ⟨_, _, _, o2⟩ e q
  unfold dI2C at e
  split at e
  · rename_i i j
    split at e
    · rename_i c
      cases e
      exact ⟨i, j, own_int o1, own_int o2, hC i j c, q _ (h i j)⟩
    · cases e
  · cases e
def dAdd : D → D → Option D := dI2 fun i j => .int (i + j)
def dSub : D → D → Option D := dI2 fun i j => .int (i - j)
def cMul (i j : Int) : Bool := (decide (-(2 ^ 64) < i) && decide (i < 2 ^ 64)) || (decide (-(2 ^ 64) < j) && decide (j < 2 ^ 64))
def dMul : D → D → Option D := dI2C cMul fun i j => .int (i * j)
def cDiv (_ j : Int) : Bool := decide (j ≠ 0) && decide (j.natAbs < 1073741824)
def dDiv : D → D → Option D := dI2C cDiv fun i j => .int (i.fdiv j)
def cMod (_ j : Int) : Bool := decide (j ≠ 0)
def dMod : D → D → Option D := dI2C cMod fun i j => .int (i.fmod j)
def cPow (i j : Int) : Bool := decide (0 ≤ j) && decide ((Builtin.Int.intBits i : Int) * j ≤ 2 ^ 27)
def dPow : D → D → Option D := dI2C cPow fun i j => .int (i ^ j.toNat)
theorem lk_add : Lk2 G (rI0 fun i j => .int (i + j)) dAdd := lk_I0 fun _ _ => .int
theorem lk_sub : Lk2 G (rI0 fun i j => .int (i - j)) dSub := lk_I0 fun _ _ => .int
theorem lk_mul : Lk2 G (rI CMul fun i j => .int (i * j)) dMul := lk_IC (fun i j h => by
  unfold cMul at h
  rw [Bool.or_eq_true, Bool.and_eq_true, Bool.and_eq_true] at h
  exact h.imp (fun h => ⟨of_decide_eq_true h.1, of_decide_eq_true h.2⟩) fun h => ⟨of_decide_eq_true h.1, of_decide_eq_true h.2⟩) fun _ _ => .int
theorem lk_div : Lk2 G (rI CDivN fun i j => .int (i.fdiv j)) dDiv := lk_IC (fun i j h => by
  unfold cDiv at h
  rw [Bool.and_eq_true] at h
  exact ⟨of_decide_eq_true h.1, of_decide_eq_true h.2⟩) fun _ _ => .int
theorem lk_mod : Lk2 G (rI (fun _ j => j ≠ 0) fun i j => .int (i.fmod j)) dMod := lk_IC (fun i j h => of_decide_eq_true h) fun _ _ => .int
def CPowG (i j : Int) : Prop := 0 ≤ j ∧ (Builtin.Int.intBits i : Int) * j ≤ 2 ^ 27
theorem op_powG : OpR X (binaryOp .Pow) (rI CPowG fun i j => .int (i ^ j.toNat)) := opI fun _ _ _ _ _ _ _ hc q => pow_int hc.1 hc.2 q
theorem lk_pow : Lk2 G (rI CPowG fun i j => .int (i ^ j.toNat)) dPow := lk_IC (fun i j h => by
  unfold cPow at h
  rw [Bool.and_eq_true] at h
  exact ⟨of_decide_eq_true h.1, of_decide_eq_true h.2⟩) fun _ _ => .int
def dLt : D → D → Option D := dI2 fun i j => .bl (decide (i < j))
def dLe : D → D → Option D := dI2 fun i j => .bl (decide (i ≤ j))
def dGt : D → D → Option D := dI2 fun i j => .bl (decide (j < i))
def dGe : D → D → Option D := dI2 fun i j => .bl (decide (j ≤ i))
theorem lk_lt : Lk2 G (rI0 fun i j => .bl (decide (i < j))) dLt := lk_I0 fun _ _ => .bl
theorem lk_le : Lk2 G (rI0 fun i j => .bl (decide (i ≤ j))) dLe := lk_I0 fun _ _ => .bl
theorem lk_gt : Lk2 G (rI0 fun i j => .bl (decide (j < i))) dGt := lk_I0 fun _ _ => .bl
theorem lk_ge : Lk2 G (rI0 fun i j => .bl (decide (j ≤ i))) dGe := lk_I0 fun _ _ => .bl
/-! ### == and != of data -/
def eqD (neg : Bool) (d1 d2 : D) : Option D := match toP d1, toP d2 with
  | some p, some q => if SeqAt.shaped p && SeqAt.shaped q then some (.bl (if neg then !PyData.eqv p q else PyData.eqv p q)) else none
  | _, _ => none
theorem lk_eq (hK : G.K = K) : Lk2 G (rEqD K) (eqD false) := by
  intro H v1 v2 d1 d2 d Q ⟨_, _, _, o1⟩ ⟨_, _, _, o2⟩ e q
  unfold eqD at e
  split at e
  · rename_i p r e1 e2
    split at e
    · rename_i hs
      rw [Bool.and_eq_true] at hs
      cases e
      exact ⟨p, r, own_dp hK o1 p e1, own_dp hK o2 r e2, hs.1, hs.2, q _ .bl⟩
    · cases e
  · cases e
theorem lk_ne (hK : G.K = K) : Lk2 G (rNeD K) (eqD true) := by
  intro H v1 v2 d1 d2 d Q ⟨_, _, _, o1⟩ ⟨_, _, _, o2⟩ e q
  unfold eqD at e
  split at e
  · rename_i p r e1 e2
    split at e
    · rename_i hs
      rw [Bool.and_eq_true] at hs
      cases e
      exact ⟨p, r, own_dp hK o1 p e1, own_dp hK o2 r e2, hs.1, hs.2, q _ .bl⟩
    · cases e
  · cases e
/-! ### is None, is True, is False -/
def isNon : D → Bool
  | .non => true
  | _ => false
theorem own_isNon {fp : List Addr} (h : Own G Z H k v d fp) : decide (v = .non) = isNon d := by
  cases h <;> simp [isNon]
def dIsN : D → D → Option D
  | d, .non => some (.bl (isNon d))
  | _, _ => none
def dNotN : D → D → Option D
  | d, .non => some (.bl (!isNon d))
  | _, _ => none
theorem own_non {fp : List Addr} (h : Own G Z H k v .non fp) : v = .non := by cases h; rfl
theorem lk_isN : Lk2 G (fun x y H Q => y = .non ∧ Q (.bl (decide (x = .non))) H) dIsN := by
  intro H v1 v2 d1 d2 d Q ⟨_, _, _, o1⟩ ⟨_, _, _, o2⟩ e q
  unfold dIsN at e
  split at e
  · cases e
    exact ⟨own_non o2, q _ (own_isNon o1 ▸ .bl)⟩
  · cases e
theorem lk_notN : Lk2 G (fun x y H Q => y = .non ∧ Q (.bl (!decide (x = .non))) H) dNotN := by
  intro H v1 v2 d1 d2 d Q ⟨_, _, _, o1⟩ ⟨_, _, _, o2⟩ e q
  unfold dNotN at e
  split at e
  · cases e
    exact ⟨own_non o2, q _ (own_isNon o1 ▸ .bl)⟩
  · cases e
def isBl (b : Bool) : D → Bool
  | .bl c => c == b
  | _ => false
def dIsB : D → D → Option D
  | d, .bl b => some (.bl (isBl b d))
  | _, _ => none
def dNotB : D → D → Option D
  | d, .bl b => some (.bl (!isBl b d))
  | _, _ => none
def rIsB1 (neg : Bool) : R2 := fun x y H Q => ∃ b, y = .bl b ∧ (∀ c, x ≠ .byt c) ∧ Q (.bl (if neg then !decide (x = .bl b) else decide (x = .bl b))) H
theorem relv_bl {x : V} {u : Value} {b : Bool} (r : RelV x u) (hb : ∀ c, x ≠ .byt c) : (x = .bl b ∧ u = .bool b) ∨ (x ≠ .bl b ∧ u ≠ .bool b ∧ plainIs u (.bool b) = true) := by
  cases x with
  | bl c =>
    cases (show u = Value.bool c from r)
    by_cases e : c = b
    · subst e; exact .inl ⟨rfl, rfl⟩
    · exact .inr ⟨fun z => e (V.bl.inj z), fun z => e (Value.bool.inj z), rfl⟩
  | non => cases (show u = Value.none from r); exact .inr ⟨nofun, nofun, rfl⟩
  | int i => obtain ⟨t, rfl⟩ := (show ∃ t, u = Value.int i t from r); exact .inr ⟨nofun, nofun, rfl⟩
  | str i => obtain ⟨t, rfl⟩ := (show ∃ t, u = Value.str i t from r); exact .inr ⟨nofun, nofun, rfl⟩
  | flt i => obtain ⟨t, rfl⟩ := (show ∃ t, u = Value.float i t from r); exact .inr ⟨nofun, nofun, rfl⟩
  | byt i => exact absurd rfl (hb i)
  | ref i => cases (show u = Value.ref i from r); exact .inr ⟨nofun, nofun, rfl⟩
  | ty i => cases (show u = Value.type i from r); exact .inr ⟨nofun, nofun, rfl⟩
theorem op_isB1 : OpR X (compareOp .Is) (rIsB1 false) := by
  intro pins s σ H x y v u Q I rx ry h
  obtain ⟨b, rfl, hb, q⟩ := h
  cases (show u = Value.bool b from ry)
  rcases relv_bl (b := b) rx hb with ⟨e1, e2⟩ | ⟨e1, e2, e3⟩
  · subst e2
    exact wpAny_is_self rfl ⟨.bl true, H, I, rfl, by simpa [e1] using q⟩
  · exact wpAny_is_other e3 e2 ⟨.bl false, H, I, rfl, by simpa [e1] using q⟩
theorem op_notB1 : OpR X (compareOp .IsNot) (rIsB1 true) := by
  intro pins s σ H x y v u Q I rx ry h
  obtain ⟨b, rfl, hb, q⟩ := h
  cases (show u = Value.bool b from ry)
  rcases relv_bl (b := b) rx hb with ⟨e1, e2⟩ | ⟨e1, e2, e3⟩
  · subst e2
    exact wpAny_isNot_self rfl ⟨.bl false, H, I, rfl, by simpa [e1] using q⟩
  · exact wpAny_isNot_other e3 e2 ⟨.bl true, H, I, rfl, by simpa [e1] using q⟩
theorem own_isBl {fp : List Addr} {b : Bool} (h : Own G Z H k v d fp) : decide (v = .bl b) = isBl b d := by
  cases h with
  | bl => rename_i b'; cases b <;> cases b' <;> decide
  | _ => simp [isBl]
theorem own_noByt {fp : List Addr} (h : Own G Z H k v d fp) : ∀ c, v ≠ .byt c := by
  cases h <;> nofun
theorem own_bl {fp : List Addr} {b : Bool} (h : Own G Z H k v (.bl b) fp) : v = .bl b := by cases h; rfl
theorem lk_isB : Lk2 G (rIsB1 false) dIsB := by
  intro H v1 v2 d1 d2 d Q ⟨_, _, _, o1⟩ ⟨_, _, _, o2⟩ e q
  unfold dIsB at e
  split at e
  · rename_i d' b
    cases e
    exact ⟨b, own_bl o2, own_noByt o1, q _ (by rw [← own_isBl o1]; exact .bl)⟩
  · cases e
theorem lk_notB : Lk2 G (rIsB1 true) dNotB := by
  intro H v1 v2 d1 d2 d Q ⟨_, _, _, o1⟩ ⟨_, _, _, o2⟩ e q
  unfold dNotB at e
  split at e
  · rename_i d' b
    cases e
    exact ⟨b, own_bl o2, own_noByt o1, q _ (by rw [← own_isBl o1]; exact .bl)⟩
  · cases e
/-! ### chains of two comparisons -/
def mChain (f f' : D → D → Option D) (ma mb mc : EM) : EM := fun en => match mm2 ma mb en with
  | .ok d1 d2 en2 => if scD d2 then match f d1 d2 with
    | some (.bl true) => match mc en2 with
      | .ok d3 en3 => match f' d2 d3 with
        | some d => .ok d en3
        | none => .bad
      | .exc c x => .exc c x
      | .bad => .bad
    | some (.bl false) => .ok (.bl false) en2
    | _ => .bad
    else .bad
  | .exc c x => .exc c x
  | .bad => .bad
theorem ei_chain {op op' : CmpOp} {r r' : R2} {f f' : D → D → Option D} {mda mdb mdc : Md} (ho : OpR X (compareOp op) r) (ho' : OpR X (compareOp op') r') (lnk : Lk2 G r f) (lnk' : Lk2 G r' f') (ha : OI X G W lk Γ a mda Γ1 ma) (hb : OI X G W (mda.L ++ lk) Γ1 b mdb Γ2 mb) (hc : OI X G W lk Γ2 c mdc Γ2 mc)
    (hm : lastMarks [op, op'] [b, c] = false := by rfl) :
    EI X G W lk Γ (.Compare a [op, op'] [b, c] pos) κ [] Γ2 (mChain f f' ma mb mc) := PE.imp (pe_chain ho ho' ha hb hc hm) fun σ H Q ⟨B, Z, en, fps, C, o⟩ => run2 C <| by
  unfold mChain at o
  cases e : mm2 ma mb en with
  | bad => rw [e] at o; exact o.elim
  | exc c x => rw [e] at o; exact o
  | ok d1 d2 en2 =>
    rw [e] at o
    dsimp only at o
    intro v1 v2 Z2 H2 fps2 C2 h1 h2
    split at o
    · rename_i hsc
      cases ef : f d1 d2 with
      | none => rw [ef] at o; exact o.elim
      | some d =>
        rw [ef] at o
        cases d with
        | bl k =>
          refine lnk H2 v1 v2 d1 d2 _ _ (Md.any h1) (Md.any h2) ef fun z sc => ?_
          cases sc
          refine ⟨k, rfl, ?_⟩
          cases k with
          | true =>
            rw [if_pos rfl]
            refine ⟨B, Z2, en2, fps2, C2, ?_⟩
            dsimp only at o
            cases ec : mc en2 with
            | bad => rw [ec] at o; exact o.elim
            | exc c x => rw [ec] at o; exact o
            | ok d3 en3 =>
              rw [ec] at o
              dsimp only at o
              intro v3 Z3 H3 fps3 C3 h3
              cases ef' : f' d2 d3 with
              | none => rw [ef'] at o; exact o.elim
              | some d =>
                rw [ef'] at o
                obtain ⟨_, _, _, o2⟩ := Md.any h2
                exact lnk' H3 v2 v3 d2 d3 d Q ⟨Z3, 0, [], (scD_scv o2 hsc).1.own⟩ (Md.any h3) ef' fun v s => o v Z3 H3 fps3 [] C3 (.sc s)
          | false =>
            rw [if_neg Bool.false_ne_true]
            exact o _ _ _ _ [] C2 (.sc .bl)
        | _ => exact o.elim
    · exact o.elim
/-! ### one argument -/
theorem own_lst_any {ds : List D} {fp : List Addr} (h : Own G Z H k v (.lst ds) fp) : ∃ a vs fp', v = .ref a ∧ H a = some (.lst vs) ∧ OwnL G Z H (k - 1) vs ds fp' := by
  cases h with
  | lst z e h => exact ⟨_, _, _, rfl, e, h⟩
  | own e h => exact ⟨_, _, _, rfl, e, h⟩
def intsD : List D → Option (List Int)
  | [] => some []
  | .int i :: ds => (intsD ds).map (i :: ·)
  | _ :: _ => none
def blsD : List D → Option (List Bool)
  | [] => some []
  | .bl i :: ds => (blsD ds).map (i :: ·)
  | _ :: _ => none
def strsD : List D → Option (List Str)
  | [] => some []
  | .str i :: ds => (strsD ds).map (i :: ·)
  | _ :: _ => none
theorem intsD_v : ∀ {vs : List V} {ds : List D} {fp : List Addr} {ns : List Int}, OwnL G Z H k vs ds fp → intsD ds = some ns → vs = ns.map V.int := by
  intro vs
  induction vs with
  | nil => intro ds fp ns h e; cases h; cases e; rfl
  | cons v vs ih =>
    intro ds fp ns h e
    cases h with
    | cons h1 h2 =>
      rename_i d ds _ _
      cases d with
      | int i =>
        unfold intsD at e
        rw [Option.map_eq_some_iff] at e
        obtain ⟨ms, e1, rfl⟩ := e
        rw [own_int h1, ih h2 e1]; rfl
      | _ => cases e
theorem blsD_v : ∀ {vs : List V} {ds : List D} {fp : List Addr} {ns : List Bool}, OwnL G Z H k vs ds fp → blsD ds = some ns → vs = ns.map V.bl := by
  intro vs
  induction vs with
  | nil => intro ds fp ns h e; cases h; cases e; rfl
  | cons v vs ih =>
    intro ds fp ns h e
    cases h with
    | cons h1 h2 =>
      rename_i d ds _ _
      cases d with
      | bl i =>
        unfold blsD at e
        rw [Option.map_eq_some_iff] at e
        obtain ⟨ms, e1, rfl⟩ := e
        rw [own_bl h1, ih h2 e1]; rfl
      | _ => cases e
theorem strsD_v : ∀ {vs : List V} {ds : List D} {fp : List Addr} {ns : List Str}, OwnL G Z H k vs ds fp → strsD ds = some ns → vs = ns.map V.str := by
  intro vs
  induction vs with
  | nil => intro ds fp ns h e; cases h; cases e; rfl
  | cons v vs ih =>
    intro ds fp ns h e
    cases h with
    | cons h1 h2 =>
      rename_i d ds _ _
      cases d with
      | str i =>
        unfold strsD at e
        rw [Option.map_eq_some_iff] at e
        obtain ⟨ms, e1, rfl⟩ := e
        rw [own_str h1, ih h2 e1]; rfl
      | _ => cases e
def dSum : D → Option D
  | .lst ds => (intsD ds).map fun ns => .int ns.sum
  | _ => none
theorem lk_sum : Lk1 G (rSum K) dSum := by
  intro H v d d' Q ⟨_, _, _, o⟩ e q
  unfold dSum at e
  split at e
  · rw [Option.map_eq_some_iff] at e
    obtain ⟨ns, e1, rfl⟩ := e
    obtain ⟨a, vs, _, rfl, h1, h2⟩ := own_lst_any o
    exact ⟨a, ns, rfl, intsD_v h2 e1 ▸ .inl (.of h1), q _ .int⟩
  · cases e
def dAll : D → Option D
  | .lst ds => (blsD ds).map fun ns => .bl (ns.all id)
  | _ => none
theorem lk_all : Lk1 G (rAll K) dAll := by
  intro H v d d' Q ⟨_, _, _, o⟩ e q
  unfold dAll at e
  split at e
  · rw [Option.map_eq_some_iff] at e
    obtain ⟨ns, e1, rfl⟩ := e
    obtain ⟨a, vs, _, rfl, h1, h2⟩ := own_lst_any o
    exact ⟨a, ns, rfl, blsD_v h2 e1 ▸ .inl (.of h1), q _ .bl⟩
  · cases e
def dAny : D → Option D
  | .lst ds => (blsD ds).map fun ns => .bl (ns.any id)
  | _ => none
theorem lk_any : Lk1 G (rAny K) dAny := by
  intro H v d d' Q ⟨_, _, _, o⟩ e q
  unfold dAny at e
  split at e
  · rw [Option.map_eq_some_iff] at e
    obtain ⟨ns, e1, rfl⟩ := e
    obtain ⟨a, vs, _, rfl, h1, h2⟩ := own_lst_any o
    exact ⟨a, ns, rfl, blsD_v h2 e1 ▸ .inl (.of h1), q _ .bl⟩
  · cases e
def dLen : D → Option D
  | .lst ds => some (.int ds.length)
  | .tup ds => some (.int ds.length)
  | .scr ns => some (.int ns.length)
  | .str z => if z.length ≤ lim then some (.int z.length) else none
  | _ => none
theorem lk_len (hK : G.K = K) : Lk1 G (fun xs H Q => ∃ x n, xs = [x] ∧ LenV K x H n ∧ Q (.int n) H) dLen := by
  intro H v d d' Q ⟨_, _, _, o⟩ e q
  unfold dLen at e
  split at e
  · cases e
    obtain ⟨a, vs, _, rfl, h1, h2⟩ := own_lst_any o
    exact ⟨_, _, rfl, .inl ⟨vs, .inl (.of h1), by rw [h2.len]⟩, q _ .int⟩
  · cases e
    obtain ⟨a, vs, rfl, h1, h2⟩ := own_tup o
    exact ⟨_, _, rfl, .inr ⟨vs, .inl (.of h1), by rw [h2.len]⟩, q _ .int⟩
  · cases e
    obtain ⟨a, rfl, s⟩ := own_scr o
    exact ⟨_, _, rfl, .inl ⟨_, hK ▸ s.sq, (List.length_map ..).symm⟩, q _ .int⟩
  · split at e
    · rename_i z hz
      cases e
      have := own_str o
      subst this
      exact ⟨_, _, rfl, ⟨lim_ok hz, rfl⟩, q _ .int⟩
    · cases e
  · cases e
def dInt : D → Option D
  | .int i => some (.int i)
  | .bl b => some (.int (if b then 1 else 0))
  | _ => none
theorem lk_int : Lk1 G (fun xs H Q => (∃ i, xs = [V.int i] ∧ Q (.int i) H) ∨ ∃ k, xs = [V.bl k] ∧ Q (.int (if k then 1 else 0)) H) dInt := by
  intro H v d d' Q ⟨_, _, _, o⟩ e q
  unfold dInt at e
  split at e
  · cases e
    exact .inl ⟨_, by rw [own_int o], q _ .int⟩
  · cases e
    exact .inr ⟨_, by rw [own_bl o], q _ .int⟩
  · cases e
def dMax : D → D → Option D := dI2 fun i j => .int (if j > i then j else i)
def dMin : D → D → Option D := dI2 fun i j => .int (if j < i then j else i)
theorem lk_max : LkB2 G (fun xs H Q => ∃ i j, xs = [V.int i, V.int j] ∧ Q (.int (if j > i then j else i)) H) dMax := by
  intro H v1 v2 d1 d2 d Q ⟨_, _, _, o1⟩ ⟨_, _, _, o2⟩ e q
  unfold dMax dI2 at e
  split at e
  · cases e
    exact ⟨_, _, by rw [own_int o1, own_int o2], q _ .int⟩
  · cases e
theorem lk_min : LkB2 G (fun xs H Q => ∃ i j, xs = [V.int i, V.int j] ∧ Q (.int (if j < i then j else i)) H) dMin := by
  intro H v1 v2 d1 d2 d Q ⟨_, _, _, o1⟩ ⟨_, _, _, o2⟩ e q
  unfold dMin dI2 at e
  split at e
  · cases e
    exact ⟨_, _, by rw [own_int o1, own_int o2], q _ .int⟩
  · cases e
/-! ### texts -/
def dCatS : D → D → Option D
  | .str x, .str y => if x.length + y.length ≤ lim then some (.str (x ++ y)) else none
  | _, _ => none
theorem lk_catS : Lk2 G (fun x y H Q => ∃ i j, x = .str i ∧ y = .str j ∧ i.length + j.length ≤ sizeLine ∧ Q (.str (i ++ j)) H) dCatS := by
  intro H v1 v2 d1 d2 d Q ⟨_, _, _, o1⟩ ⟨_, _, _, o2⟩ e q
  unfold dCatS at e
  split at e
  · split at e
    · rename_i hz
      cases e
      exact ⟨_, _, own_str o1, own_str o2, lim_ok hz, q _ .str⟩
    · cases e
  · cases e
def dInS (neg : Bool) : D → D → Option D
  | .str x, .str y => some (.bl (if neg then (Builtin.Str.occurrences y x 0 y.length 1).isEmpty else !(Builtin.Str.occurrences y x 0 y.length 1).isEmpty))
  | _, _ => none
theorem lk_inS : Lk2 G (fun x y H Q => ∃ i j, x = .str i ∧ y = .str j ∧ Q (.bl (!(Builtin.Str.occurrences j i 0 j.length 1).isEmpty)) H) (dInS false) := by
  intro H v1 v2 d1 d2 d Q ⟨_, _, _, o1⟩ ⟨_, _, _, o2⟩ e q
  unfold dInS at e
  split at e
  · cases e
    exact ⟨_, _, own_str o1, own_str o2, q _ .bl⟩
  · cases e
/-! ### isinstance -/
def tyD : D → Option String
  | .non => some "NoneType"
  | .bl _ => some "bool"
  | .int _ => some "int"
  | .str _ => some "str"
  | .tup _ => some "tuple"
  | .lst _ => some "list"
  | .tl _ _ => some "list"
  | .scr _ => some "list"
  | .edict => some "dict"
  | _ => none
theorem own_ty (hK : G.K = K) {t : String} {fp : List Addr} (h : Own G Z H k v d fp) (e : tyD d = some t) : TyX K H v (.type t) := by
  cases h with
  | non => cases e; exact .base .non
  | bl => cases e; exact .base (.bl _)
  | int => cases e; exact .base (.int _)
  | str => cases e; exact .base (.str _)
  | tup q _ => cases e; exact .base (.tup q)
  | lst _ q _ => cases e; exact .base (.lst q)
  | own q _ => cases e; exact .base (.lst q)
  | ed0 _ q => cases e; exact .base (.dK q)
  | edS q => cases e; exact .base (.dK q)
  | scr s =>
    cases e
    rcases s with ⟨o, q⟩ | ⟨o, its, n, q, c, _⟩
    · exact .base (.frz q)
    · exact .kList (hK ▸ q) c
  | fn => cases e
  | exc => cases e
  | clo => cases e
  | tag _ q =>
    cases e
    cases q with
    | lst _ q _ => exact .base (.lst q)
    | own q _ => exact .base (.lst q)
def isB (T t : String) : Bool := t == T || (t == "bool" && T == "int")
def kTys : List String := ["NoneType", "bool", "int", "str", "tuple", "list", "dict"]
theorem tyD_mem {d : D} {t : String} (e : tyD d = some t) : t ∈ kTys := by
  unfold tyD at e
  split at e <;> first | (cases e; decide) | cases e
theorem kitB_is : ∀ T ∈ ["int", "bool", "str", "list", "tuple"], ∀ t ∈ kTys, kitB t T = some (isB T t) := by decide +kernel
def dIsI (T : String) (d : D) : Option D := (tyD d).map fun t => .bl (isB T t)
theorem ei_isi {T : Str} {Ts : String} {md : Md} {p p2 : Pos} (hK : G.K = X.K) (hT : Ts ∈ ["int", "bool", "str", "list", "tuple"]) (hg : Gl X "isinstance") (hm : X.mg "isinstance" = none) (hv : bootBuiltins "isinstance" = some (.builtin "isinstance")) (hg2 : Gl X T) (hm2 : X.mg T = none) (hv2 : bootBuiltins T = some (.type Ts)) (ha : OI X G W lk Γ a md Γ' m)
    (hn2 : T ≠ "__name__" := by decide) (hd2 : (T == ("__debug__" : Str)) = false := by decide)
    (he : starEach (a :: [.Name T p2]) X.env = (false, eval a X.env) :: starEach [.Name T p2] X.env := by rfl) (he2 : starEach [.Name T p2] X.env = (false, eval (.Name T p2) X.env) :: starEach [] X.env := by rfl) (hpl : (backTo pos (starEach [.Name T p2] X.env)).any (·.1) = false := by rfl) :
    EI X G W lk Γ (.Call (.Name "isinstance" p) [a, .Name T p2] [] pos) κ [] Γ' (m1 (dIsI Ts) m) :=
  PE.imp (pe_callB call_isi hg hm hv (pa_cons ha (pa_cons (pe_bltn hg2 hm2 hv2 (show RelV (.ty Ts) (.type Ts) from rfl) hn2 hd2) pa_nil he2) he) (by decide) (by decide) he hpl) fun σ H Q ⟨B, Z, en, fps, C, o⟩ => ⟨B, Z, en, fps, C, out1 (md := md) (r := fun v H2 => rIsi X.K [v, .ty Ts] H2 Q) o fun d d' v Z2 H2 fps2 en2 ef C2 h2 o => by
    unfold dIsI at ef
    rw [Option.map_eq_some_iff] at ef
    obtain ⟨t, e1, rfl⟩ := ef
    obtain ⟨_, _, _, ow⟩ := Md.any h2
    exact ⟨v, .ty Ts, .type t, .type Ts, _, rfl, .ty Ts, own_ty hK ow e1, kit_ty (kitB_is Ts hT t (tyD_mem e1)), o _ _ _ _ [] C2 (.sc .bl)⟩⟩
end
end Im
/-! repr, texts, tuples of classes, lists made of others, enumerate, calls of a function held. -/
namespace Im
open PySem PySem.Spec PyProof.Rows L2
mutual
theorem toP_nodict : ∀ (d : D) (p : PyData), toP d = some p → p.hasDict = false
  | .non, p, e => by cases e; rfl
  | .bl _, p, e => by cases e; rfl
  | .int _, p, e => by cases e; rfl
  | .str _, p, e => by cases e; rfl
  | .tup xs, p, e => by
    unfold toP at e
    rw [Option.map_eq_some_iff] at e
    obtain ⟨ps, e1, rfl⟩ := e
    unfold PyData.hasDict
    exact toPL_nodict xs ps e1
  | .lst xs, p, e => by
    unfold toP at e
    rw [Option.map_eq_some_iff] at e
    obtain ⟨ps, e1, rfl⟩ := e
    unfold PyData.hasDict
    exact toPL_nodict xs ps e1
  | .scr ns, p, e => by
    cases e
    unfold PyData.hasDict
    induction ns with
    | nil => rfl
    | cons n ns ih =>
      show (PyData.hasDict (.int n) || PyData.hasDictAll (ns.map .int)) = false
      rw [ih]; rfl
  | .edict, p, e => by cases e
  | .fn _, p, e => by cases e
  | .exc _ _, p, e => by cases e
  | .clo _ _, p, e => by cases e
  | .tl _ xs, p, e => by
    unfold toP at e
    rw [Option.map_eq_some_iff] at e
    obtain ⟨ps, e1, rfl⟩ := e
    unfold PyData.hasDict
    exact toPL_nodict xs ps e1
theorem toPL_nodict : ∀ (ds : List D) (ps : List PyData), toPL ds = some ps → PyData.hasDictAll ps = false
  | [], ps, e => by cases e; rfl
  | d :: ds, ps, e => by
    unfold toPL at e
    split at e
    · rename_i a b e1 e2
      cases e
      unfold PyData.hasDictAll
      rw [toP_nodict d a e1, toPL_nodict ds b e2]; rfl
    · cases e
end
section
variable {G : GI} {B B' : Bs} {W : WX} {lk lk' L L' La Lb : List Nat} {Z Z' : Addr → Prop} {σ σ' : St} {H H' : Hp} {Γ Γ' Γ1 Γ2 Γ3 : List Nat} {en en' : En} {fps fps' : Nat → List Addr} {κ κ' k : Nat} {κs : List Nat} {v : V} {d : D} {ro : RO}
variable {X : Cx} {pos : Pos} {m ma mb mc : EM} {e a b c : Expr} {K : PySem.W.Frag}
/-! ### repr -/
def dRepr : D → Option D := fun d => match toP d with
  | some p => if p.showable && decide (p.depth ≤ 60) && decide (p.shown.length ≤ lim) then some (.str p.shown) else none
  | none => none
def rRepr (K : PySem.W.Frag) : List V → Hp → VK → Prop := fun xs H Q => ∃ x p, xs = [x] ∧ Dp K H x p ∧ p.hasDict = false ∧ p.showable = true ∧ p.depth ≤ 60 ∧ p.shown.length ≤ sizeLine ∧ Q (.str p.shown) H
theorem call_repr (hg : X.A.guards = some []) (hu : X.A.units + 64 < cLine) : CallR X (.builtin "repr") (rRepr X.K) := by
  intro pins s σ H xs us Q I r h
  obtain ⟨x, p, rfl, hd, nd, hs, hp, hz, q⟩ := h
  obtain ⟨u, rfl, rx⟩ := vals1 r
  have ref : ∀ (a : Addr) (as : List Addr), Reads s.heap (.ref a) p as → wpAny (model X.prog X.w) X.A (call (.builtin "repr") [.ref a]) (EP X pins σ Q) X.xe s := fun a as rd =>
    repr_of_reads' rd hs (fun e => by rw [nd] at e; cases e) hg (by omega) (fun _ _ e => e) (fun h' u tk hk => ⟨.str p.shown, H, I.kept (h' := h') (t' := tk) hk, ⟨u, rfl⟩, q⟩) hz
  obtain ⟨as, rd⟩ := Dp.reads I p x u hd rx
  cases hd with
  | non =>
    cases (show u = Value.none from rx)
    exact PySem.P.repr_of_none ⟨.str _, H, I.tok _, ⟨_, rfl⟩, q⟩
  | bl b =>
    cases (show u = Value.bool b from rx)
    exact PySem.P.repr_of_bool ⟨.str _, H, I.tok _, ⟨_, rfl⟩, by simpa [PyData.shown] using q⟩
  | int i =>
    obtain ⟨t, rfl⟩ := (show ∃ t, u = Value.int i t from rx)
    exact PySem.P.repr_of_int (by simpa [PyData.showable] using hs) ⟨.str _, H, I.tok _, ⟨_, rfl⟩, by simpa [PyData.shown] using q⟩
  | str z =>
    obtain ⟨t, rfl⟩ := (show ∃ t, u = Value.str z t from rx)
    exact PySem.P.repr_of_str ⟨.str _, H, I.tok _, ⟨_, rfl⟩, by simpa [PyData.shown] using q⟩ (by simpa [PyData.shown] using hz)
  | @lst a xs ds _ _ =>
    cases (show u = Value.ref a from rx)
    exact ref a as rd
  | @tup a xs ds _ _ =>
    cases (show u = Value.ref a from rx)
    exact ref a as rd
theorem lk_repr (hK : G.K = K) : Lk1 G (rRepr K) dRepr := by
  intro H v d d' Q ⟨_, _, _, o⟩ e q
  unfold dRepr at e
  split at e
  · rename_i p ep
    split at e
    · rename_i c
      cases e
      rw [Bool.and_eq_true, Bool.and_eq_true] at c
      exact ⟨v, p, rfl, own_dp hK o p ep, toP_nodict _ _ ep, c.1.1, of_decide_eq_true c.1.2, lim_ok (of_decide_eq_true c.2), q _ .str⟩
    · cases e
  · cases e
/-! ### methods of texts -/
def mS (m : EM) : EM := fun en => match m en with
  | .ok (.str z) en' => .ok (.str z) en'
  | .ok _ _ => .bad
  | .exc c x => .exc c x
  | .bad => .bad
theorem mm2_S {ma mb : EM} {en en2 : En} {d1 d2 : D} (h : mm2 (mS ma) mb en = .ok d1 d2 en2) : ∃ z, d1 = .str z := by
  unfold mm2 mS at h
  cases e : ma en with
  | bad => rw [e] at h; cases h
  | exc c x => rw [e] at h; cases h
  | ok d en1 =>
    rw [e] at h
    cases d with
    | str z =>
      dsimp only at h
      cases eb : mb en1 with
      | bad => rw [eb] at h; cases h
      | exc c x => rw [eb] at h; cases h
      | ok d' en' => rw [eb] at h; cases h; exact ⟨z, rfl⟩
    | _ => cases h
/-- a value that is a text -/
theorem oi_S {md : Md} {Q : VK} (C : Cfg G B lk Z σ H Γ en fps) (o : OutO G B W lk md Γ1 σ Q (mS m en)) : tO G W lk Γ md Γ1 m σ H fun x H1 => (∃ z, x = .str z) ∧ Q x H1 := by
  refine ⟨B, Z, en, fps, C, ?_⟩
  unfold mS at o
  cases e : m en with
  | bad => rw [e] at o; exact o
  | exc c x => rw [e] at o; exact o
  | ok d en' =>
    rw [e] at o
    cases d with
    | str z =>
      intro v Z' H' fps' C' h'
      obtain ⟨_, _, _, q⟩ := Md.any h'
      exact ⟨⟨z, own_str q⟩, o v Z' H' fps' C' h'⟩
    | _ => exact o.elim
theorem run2S {mda mdb : Md} {R : V → V → Hp → Prop} (C : Cfg G B lk Z σ H Γ en fps) (h : Out2 G B W lk mda mdb Γ2 σ R (mm2 (mS ma) mb en)) :
    tO G W lk Γ mda Γ1 ma σ H fun x H1 => (∃ z, x = .str z) ∧ tO G W (mda.L ++ lk) Γ1 mdb Γ2 mb σ H1 fun y H2 => R x y H2 := by
  obtain ⟨B', Z', en', fps', C', o⟩ := run2 (Γ1 := Γ1) (ma := mS ma) C h
  exact oi_S C' o
def dCount : D → D → Option D
  | .str x, .str y => some (.int (Txt.count x y))
  | _, _ => none
theorem ei_count {md1 md2 : Md} {apos : Pos} (ha : OI X G W lk Γ a md1 Γ1 ma) (hb : OI X G W (md1.L ++ lk) Γ1 b md2 Γ2 mb) (hs : starEach [b] X.env = [(false, eval b X.env)] := by rfl) (hbase : attributeBase a "count" X.env (eval a X.env) = eval a X.env := by rfl) (hline : (apos.endLine == pos.line) = true := by rfl) :
    EI X G W lk Γ (.Call (.Attribute a "count" apos) [b] [] pos) κ [] Γ2 (mB dCount (mS ma) mb) :=
  PE.imp (pe_m1 PySem.F.slot_str_count PySem.F.type_str_count mt_count ha hb hs hbase hline) fun σ H Q ⟨B, Z, en, fps, C, o⟩ => run2S C (mB_cases o fun d1 d2 d v1 v2 Z2 H2 fps2 en2 ef C2 h1 h2 o => by
    unfold dCount at ef
    split at ef
    · cases ef
      obtain ⟨_, _, _, o1⟩ := Md.any h1
      obtain ⟨_, _, _, o2⟩ := Md.any h2
      exact ⟨_, _, own_str o1, by rw [own_str o2], o _ _ _ _ [] C2 (.sc .int)⟩
    · cases ef)
def dJoin : D → D → Option D
  | .str x, .lst ds => match strsD ds with
    | some ys => if (ys.map (·.length)).sum + ys.length * x.length ≤ lim then some (.str (Txt.join x ys)) else none
    | none => none
  | _, _ => none
theorem ei_join {md1 md2 : Md} {apos : Pos} (ha : OI X G W lk Γ a md1 Γ1 ma) (hb : OI X G W (md1.L ++ lk) Γ1 b md2 Γ2 mb) (hs : starEach [b] X.env = [(false, eval b X.env)] := by rfl) (hbase : attributeBase a "join" X.env (eval a X.env) = eval a X.env := by rfl) (hline : (apos.endLine == pos.line) = true := by rfl) :
    EI X G W lk Γ (.Call (.Attribute a "join" apos) [b] [] pos) κ [] Γ2 (mB dJoin (mS ma) mb) :=
  PE.imp (pe_m1 PySem.F.slot_str_join PySem.F.type_str_join mt_join ha hb hs hbase hline) fun σ H Q ⟨B, Z, en, fps, C, o⟩ => run2S C (mB_cases o fun d1 d2 d v1 v2 Z2 H2 fps2 en2 ef C2 h1 h2 o => by
    unfold dJoin at ef
    split at ef
    · rename_i x ds
      split at ef
      · rename_i ys e2
        split at ef
        · rename_i hz
          cases ef
          obtain ⟨_, _, _, o1⟩ := Md.any h1
          obtain ⟨_, _, _, o2⟩ := Md.any h2
          obtain ⟨p, vs, _, rfl, q1, q2⟩ := own_lst_any o2
          have qv := strsD_v q2 e2
          subst qv
          exact ⟨_, p, ys, own_str o1, rfl, .inl (.inl (.of q1)), Nat.le_trans hz (by decide), o _ _ _ _ [] C2 (.sc .str)⟩
        · cases ef
      · cases ef
    · cases ef)
def dBits : D → Option D
  | .int i => some (.int (Builtin.Int.intBits i : Nat))
  | _ => none
theorem ei_bits {md : Md} {apos : Pos} (ha : OI X G W lk Γ a md Γ1 m) (hbase : attributeBase a "bit_length" X.env (eval a X.env) = eval a X.env := by rfl) (hline : (apos.endLine == pos.line) = true := by rfl) :
    EI X G W lk Γ (.Call (.Attribute a "bit_length" apos) [] [] pos) κ [] Γ1 (m1 dBits m) :=
  PE.imp (pe_bits ha hbase hline) fun σ H Q ⟨B, Z, en, fps, C, o⟩ => ⟨B, Z, en, fps, C, out1 (md := md) o fun d d' v Z2 H2 fps2 en2 ef C2 h2 o => by
    unfold dBits at ef
    split at ef
    · cases ef
      obtain ⟨_, _, _, q⟩ := Md.any h2
      exact ⟨_, own_int q, o _ _ _ _ [] C2 (.sc .int)⟩
    · cases ef⟩
/-! ### text * number -/
def dMulS : D → D → Option D
  | .str x, .int n => if -1000000 ≤ n ∧ n ≤ 1000000 ∧ x.length ≤ 16 then some (.str (Txt.mul x n)) else none
  | _, _ => none
def rMulS : R2 := fun x y H Q => ∃ z n, x = .str z ∧ y = .int n ∧ -1000000 ≤ n ∧ n ≤ 1000000 ∧ z.length ≤ 16 ∧ Q (.str (Txt.mul z n)) H
theorem op_mulS : OpR X (binaryOp .Mult) rMulS := by
  intro pins s σ H x y v u Q I rx ry h
  obtain ⟨z, n, rfl, rfl, h1, h2, h3, q⟩ := h
  obtain ⟨t, rfl⟩ := rx
  obtain ⟨t', rfl⟩ := ry
  exact PySem.SB.mul (PyProof.Rows.mulOk_of 16 1000000 h3 h2 (by omega) (by decide) (by decide)) fun t2 k => ⟨.str _, H, I.tok _, ⟨_, rfl⟩, q⟩
theorem lk_mulS : Lk2 G rMulS dMulS := by
  intro H v1 v2 d1 d2 d Q ⟨_, _, _, o1⟩ ⟨_, _, _, o2⟩ e q
  unfold dMulS at e
  split at e
  · split at e
    · rename_i hz
      cases e
      exact ⟨_, _, own_str o1, own_int o2, hz.1, hz.2.1, hz.2.2, q _ .str⟩
    · cases e
  · cases e
/-! ### isinstance(x, (A, B)) -/
def dIsI2 (T U : String) (d : D) : Option D := (tyD d).map fun t => .bl (isB T t || isB U t)
theorem ei_isi2 {T U : Str} {Ts Us : String} {md : Md} {p p2 p3 p4 : Pos} {kt : Nat} (hK : G.K = X.K) (hT : Ts ∈ ["int", "bool", "str", "list", "tuple"]) (hU : Us ∈ ["int", "bool", "str", "list", "tuple"]) (hg : Gl X "isinstance") (hm : X.mg "isinstance" = none) (hv : bootBuiltins "isinstance" = some (.builtin "isinstance")) (hg2 : Gl X T) (hm2 : X.mg T = none) (hv2 : bootBuiltins T = some (.type Ts)) (hg3 : Gl X U) (hm3 : X.mg U = none) (hv3 : bootBuiltins U = some (.type Us)) (ha : OI X G W lk Γ a md Γ' m)
    (hn2 : T ≠ "__name__" := by decide) (hd2 : (T == ("__debug__" : Str)) = false := by decide) (hn3 : U ≠ "__name__" := by decide) (hd3 : (U == ("__debug__" : Str)) = false := by decide)
    (he : starEach (a :: [.Tuple [.Name T p2, .Name U p3] kt p4]) X.env = (false, eval a X.env) :: starEach [.Tuple [.Name T p2, .Name U p3] kt p4] X.env := by rfl) (he2 : starEach [.Tuple [.Name T p2, .Name U p3] kt p4] X.env = (false, eval (.Tuple [.Name T p2, .Name U p3] kt p4) X.env) :: starEach [] X.env := by rfl) (hpl : (backTo pos (starEach [.Tuple [.Name T p2, .Name U p3] kt p4] X.env)).any (·.1) = false := by rfl)
    (h4 : starEach (.Name T p2 :: [.Name U p3]) X.env = (false, eval (.Name T p2) X.env) :: starEach [.Name U p3] X.env := by rfl) (h5 : starEach (.Name U p3 :: []) X.env = (false, eval (.Name U p3) X.env) :: starEach [] X.env := by rfl) :
    EI X G W lk Γ (.Call (.Name "isinstance" p) [a, .Tuple [.Name T p2, .Name U p3] kt p4] [] pos) κ [] Γ' (m1 (dIsI2 Ts Us) m) :=
  PE.imp (pe_callB call_isiT hg hm hv (pa_cons ha (pa_cons (pe_tup (pa_cons (pe_bltn hg2 hm2 hv2 (show RelV (.ty Ts) (.type Ts) from rfl) hn2 hd2) (pa_cons (pe_bltn hg3 hm3 hv3 (show RelV (.ty Us) (.type Us) from rfl) hn3 hd3) pa_nil h5) h4)) pa_nil he2) he) (by decide) (by decide) he hpl) fun σ H Q ⟨B, Z, en, fps, C, o⟩ => ⟨B, Z, en, fps, C, out1 (md := md) (r := fun v H2 => [V.ty Ts, V.ty Us].length ≤ sizeLine ∧ ∀ p, H2 p = none → rIsiT X.K [v, .ref p] (upd H2 p (.tup [.ty Ts, .ty Us])) Q) o fun d d' v Z2 H2 fps2 en2 ef C2 h2 o => by
    refine ⟨by show 2 ≤ sizeLine; decide, fun p hp => ?_⟩
    unfold dIsI2 at ef
    rw [Option.map_eq_some_iff] at ef
    obtain ⟨t, e1, rfl⟩ := ef
    obtain ⟨Zx, kx, fpx, ow⟩ := Md.any h2
    have ow2 : Own G Zx (upd H2 p (.tup [.ty Ts, .ty Us])) kx v d fpx := own_keep (fun a u q _ => upd_keep hp a u q) (fun a z => ⟨z, fun u q => upd_keep hp a u q⟩) ow fun a _ u q => upd_keep hp a u q
    have hk1 := kit_ty (K := X.K) (kitB_is Ts hT t (tyD_mem e1))
    have hk2 := kit_ty (K := X.K) (kitB_is Us hU t (tyD_mem e1))
    refine ⟨v, p, [.ty Ts, .ty Us], .type t, [.type Ts, .type Us], isB Ts t || isB Us t, rfl, upd_same, .cons (.ty Ts) (.cons (.ty Us) .nil), own_ty hK ow2 e1, kitAny_cons hk1 (fun hb => kitAny_cons hk2 (fun hb2 => by rw [kitAny_nil, hb, hb2]; rfl) fun hb2 => by rw [hb2, Bool.or_true]) (fun hb => by rw [hb, Bool.true_or]), ?_⟩
    exact o _ _ _ _ [] (C2.grow hp) (.sc .bl)⟩
/-! ### list(x) -/
def dList : D → Option D
  | .lst xs => some (.lst xs)
  | .tup xs => some (.lst xs)
  | _ => none
theorem ei_list {p : Pos} (hg : Gl X "list") (hm : X.mg "list" = none) (hv : bootBuiltins "list" = some (.type "list")) (ha : OI X G W lk Γ a (.v L) Γ' m) (he : starEach (a :: []) X.env = (false, eval a X.env) :: starEach [] X.env := by rfl) :
    EI X G W lk Γ (.Call (.Name "list" p) [a] [] pos) 1 [] Γ' (m1 dList m) :=
  PE.imp (pe_callTy call_list_of hg hm hv (pa_cons ha pa_nil he) (by decide) (by decide) he rfl) fun σ H Q ⟨B, Z, en, fps, C, o⟩ => ⟨B, Z, en, fps, C, out1 (md := .v L) o fun d d' v Z2 H2 fps2 en2 ef C2 h2 o => by
    unfold dList at ef
    split at ef
    · cases ef
      obtain ⟨a, vs, rfl, e1, o1⟩ := Vw.lst h2
      exact ⟨a, vs, rfl, .inl (.inl (.of e1)), fun l hl => o _ _ _ _ _ (C2.grow hl) (fresh_lst C2 o1 hl)⟩
    · rename_i xs
      cases ef
      have q : ∃ a vs, v = .ref a ∧ H2 a = some (.tup vs) ∧ OwnL G Z2 H2 0 vs xs [] := by
        rcases h2 with h2 | ⟨b, ws, es, f1, f2, f3, h2, i, hi, ha⟩
        · exact own_tup h2
        · cases f2
      obtain ⟨a, vs, rfl, e1, o1⟩ := q
      exact ⟨a, vs, rfl, .inr (.inl (.of e1)), fun l hl => o _ _ _ _ _ (C2.grow hl) (fresh_lst C2 o1 hl)⟩
    · cases ef⟩
/-! ### enumerate -/
def enumD (ds : List D) : List D := ds.mapIdx fun i d => .tup [.int (i : Nat), d]
theorem live_enum {a : Addr} {vs : List V} {ds : List D} (K : PySem.W.Frag) : Live G (Ite K a) (enumD ds) fun Z H => H a = some (.lst vs) ∧ OwnL G Z H 0 vs ds [] where
  go := fun Z H i ⟨e, o⟩ hi => by
    unfold enumD at hi
    rw [List.length_mapIdx] at hi
    obtain ⟨x, hx⟩ := o.ex0 hi
    exact ⟨vs, x, .inl (.of e), hx⟩
  stop := fun Z H i ⟨e, o⟩ hi => by
    unfold enumD at hi
    rw [List.length_mapIdx] at hi
    exact ⟨vs, .inl (.of e), by rw [o.len]; exact hi⟩
  yld := fun Z H i d x H' ⟨e, o⟩ hd ⟨T, y, e1, e2, e3, hx⟩ => by
    unfold enumD at hd
    rw [List.getElem?_mapIdx] at hd
    cases q : ds[i]? with
    | none => rw [q] at hd; cases hd
    | some d0 =>
      rw [q] at hd
      cases hd
      obtain ⟨v, h1, h2⟩ := o.get0 q
      have q2 := hx vs (.inl (.of e))
      rw [h1] at q2; cases q2
      exact .inr ⟨T, _, _, e1, e2, e3, rfl, OwnL.cons (fp := []) (fps := []) .int (OwnL.cons (fp := []) (fps := []) h2 .nil)⟩
def dLst : D → Option (List D)
  | .lst xs => some (enumD xs)
  | _ => none
theorem ii_enum {p tpos : Pos} {elts : List Expr} {kk : Nat} (hg : Gl X "enumerate") (hm : X.mg "enumerate" = none) (h : OI X G W lk Γ e (.v L) Γ' m) (hs : starEach [e] X.env = [(false, eval e X.env)] := by rfl) (he : starEach (e :: []) X.env = (false, eval e X.env) :: starEach [] X.env := by rfl) :
    II X G W lk Γ (.Tuple elts kk tpos) (.Call (.Name "enumerate" p) [e] [] pos) L Γ' (mIt dLst m) := PI.imp (pi_enum hg hm (pa_cons h pa_nil he) hs) fun σ H R ⟨B, Z, en, fps, C, o⟩ => by
  refine ⟨B, Z, en, fps, C, ?_⟩
  unfold mIt at o
  cases e : m en with
  | bad => rw [e] at o; exact o
  | exc c x => rw [e] at o; exact o
  | ok d en' =>
    rw [e] at o
    dsimp only at o
    intro v Z' H' fps' C' h'
    cases ed : dLst d with
    | none => rw [ed] at o; exact o.elim
    | some ds =>
      rw [ed] at o
      unfold dLst at ed
      split at ed
      · rename_i xs
        cases ed
        obtain ⟨a, vs, e1, e2, e3⟩ := Vw.lst h'
        refine ⟨a, vs, by rw [e1], .inl (.of e2), o _ (fun Z H => H a = some (.lst vs) ∧ OwnL G Z H 0 vs xs []) _ _ _ C' (live_enum _) fun pins Z2 σ2 H2 Γ2 en2 fps2 D2 => ?_⟩
        obtain ⟨s1, s2, s3⟩ := stay_all (L := L) (cfg_pins C' (pins := []) fun _ h => nomatch h) (fun i m => List.mem_append_right _ m) (fun i m => List.mem_append_left _ m) (cfg_pins D2 (pins := []) fun _ h => nomatch h)
        have zz : ∀ a, Z' a → Z2 a ∧ ∀ o, H' a = some o → H2 a = some o := fun a z => ⟨D2.zb a z, (s2 a (.inl z)).2⟩
        refine ⟨?_, ownL_keep s1 zz e3 fun _ h => nomatch h⟩
        rcases h' with h' | ⟨b, ws, es, f1, f2, f3, h', i, hi, ha⟩
        · subst e1
          generalize hx : D.lst xs = dx at h'
          generalize hv : V.ref a = vx at h'
          cases h' with
          | lst z e h => cases hv; exact (zz _ z).2 _ e2
          | _ => cases hx
        · rw [e1] at f1
          cases f1
          exact (s2 a (.inr ⟨i, hi, ha⟩)).2 _ e2
      · cases ed
end
end Im
/-! enumerate(text). -/
namespace Im
open PySem PySem.Spec PyProof.Rows L2
def Itse (x : Str) : It := ⟨fun i _ => i < x.cps.size, fun i H v H' => ∃ T c, v = .ref T ∧ H T = none ∧ x.cps[i]? = some c ∧ H' = upd H T (.tup [.int (i : Nat), .str ⟨#[c]⟩]), fun i _ => x.cps.size ≤ i⟩
theorem draws_str {P : Program} {w : World} {A : Around} (hh : A.handled = none) (it : Addr) (x : Str) (t : Tok) : Draws P w A it [it] x.cps.size (SignAt x) (fun i h => h.IsStrIter it (strIterType x) x t i) := by
  unfold strIterType
  split
  · exact Draws.strAscii hh it x t
  · exact Draws.strWide hh it x t
theorem turn_enumS {P : Program} {w : World} {K : PySem.W.Frag} {elts : List Expr} {kk : Nat} {tpos : Pos} (x : Str) (t : Tok) (e it : Addr) :
    Turn P w K (.Tuple elts kk tpos) (Itse x) [e, it] e (fun i h => (∃ old, IsEnum h e it ((i : Nat) : Int) old) ∧ h.IsStrIter it (strIterType x) x t i ∧ e ≠ it ∧ i ≤ x.cps.size) where
  mem := by simp
  obj := fun i h st b hb => by
    obtain ⟨⟨old, he⟩, ⟨o, ho, hc, hd⟩, _⟩ := st
    have e' : b = e ∨ b = it := by simpa using hb
    rcases e' with z | z
    · rw [z]; exact ⟨_, he, fun v q => nomatch q⟩
    · rw [z]; exact ⟨o, ho, fun v q => by rw [hd] at q; cases q⟩
  keep := fun i h h' st k => by
    obtain ⟨⟨old, he⟩, ⟨o, ho, r⟩, hne, hle⟩ := st
    exact ⟨⟨old, k e (by simp) _ he⟩, ⟨o, k it (by simp) o ho, r⟩, hne, hle⟩
  item := by
    intro X hP hw hK hc i pins s σ H E I hf st hg
    subst hP hw hK
    obtain ⟨⟨old, he⟩, hit, hne, hle⟩ := st
    have hel : e < s.heap.objs.size := Heap.lt_size he
    have hil : it < s.heap.objs.size := by obtain ⟨_, q, _⟩ := hit; exact Heap.lt_size q
    refine wpAny_pyNext_enum_itemD (draws_str (A := X.A.in1) (I.ok.hd hc) it x t) he hit hg hne (by simpa using hne) fun u h' tk hP ho hit' hT hsz hk => ?_
    obtain ⟨c, t2, hcx, rfl⟩ := hP
    refine ⟨_, rfl, wpAny_letOwnedTupleGo_enum (s := { s with heap := h', toks := tk + 1 }) ho fun h'' he' sb => ?_⟩
    have hT2 : h''.get? s.heap.objs.size = some { cls := .type "tuple", data := .seq #[.int i tk, .str ⟨#[c]⟩ t2] } := (sb.2 _ (Nat.ne_of_gt hel)).trans hT
    have new : ObjOk X.prog X.w (upd H s.heap.objs.size (.tup [.int (i : Nat), .str ⟨#[c]⟩])) h'' s.heap.objs.size (.tup [.int (i : Nat), .str ⟨#[c]⟩]) :=
      ⟨by show 2 ≤ sizeLine; decide, [.int i tk, .str ⟨#[c]⟩ t2], .cons ⟨_, rfl⟩ (.cons ⟨_, rfl⟩ .nil), ⟨_, hT2, rfl, _, rfl⟩⟩
    have I1 : Inv X pins σ (upd H s.heap.objs.size (.tup [.int (i : Nat), .str ⟨#[c]⟩])) { s with heap := h'', toks := tk + 1 } :=
      I.turnedNew (ch := [e, it]) (fun b ob hb q => (sb.2 b (fun z => hb (by simp [z]))).trans (hk b ob (fun z => hb (by simp [z])) (fun z => hb (by simp [z])) q)) hf (Nat.le_refl _) new
    refine ⟨.ref s.heap.objs.size, _, I1, rfl, ⟨_, c, rfl, I.hok.fresh (Nat.le_refl _), hcx, rfl⟩, ⟨⟨.str ⟨#[c]⟩ t2, ?_⟩, ?_, hne, hg⟩, fun b hb => ?_⟩
    · have e1 : ((i + 1 : Nat) : Int) = (i : Int) + 1 := by omega
      rw [e1]; exact he'
    · obtain ⟨o, ho', r⟩ := hit'
      exact ⟨o, (sb.2 it (Ne.symm hne)).trans ho', r⟩
    · have hb' : b < s.heap.objs.size := by
        have e' : b = e ∨ b = it := by simpa using hb
        rcases e' with z | z
        · rw [z]; exact hel
        · rw [z]; exact hil
      rw [upd_ne (Nat.ne_of_lt hb')]
      exact (hf b hb).1
  done := by
    intro X hP hw hK hc i pins s σ H E I hf st hg
    subst hP hw hK
    obtain ⟨⟨old, he⟩, hit, hne, hle⟩ := st
    obtain ⟨f0, f1, f2, f3, f4, f5⟩ := hf it (by simp)
    have hi : x.cps.size ≤ i := hg
    refine wpAny_pyNext_enum_endD (draws_str (A := X.A.in1) (I.ok.hd hc) it x t) he (n := x.cps.size) (by rw [Nat.le_antisymm hi hle]; exact hit) fun h' eb => ⟨rfl, I.turned (t' := s.toks) (fun b o hb q => eb b o hb q) f0 f1 f3 f4 f5⟩
  self := fun A i s Q E st h => let ⟨⟨_, he⟩, _⟩ := st; wpAny_pyIter_enum he h
def iEnumS (ta : TA) : TIr := fun σ H R => ta σ H fun vs H1 => ∃ x, vs = [.str x] ∧ R (Itse x) H1
theorem pi_enumS {X : Cx} {e : Expr} {ta : TA} {p pos tpos : Pos} {elts : List Expr} {kk : Nat} (hg : Gl X "enumerate") (hm : X.mg "enumerate" = none) (ha : PA X [e] ta) (hs : starEach [e] X.env = [(false, eval e X.env)] := by rfl) :
    PI X (.Tuple elts kk tpos) (.Call (.Name "enumerate" p) [e] [] pos) (iEnumS ta) := by
  refine ⟨fun pins s σ H R I h => ?_⟩
  refine Call_ (ld_blt I hg hm boot_enumerate (PyProof.Rows.callWith_type1 (thn (ha.run pos pins s σ H _ I h) fun us s1 ⟨vs, H1, I1, r1, q1⟩ => ?_) hs rfl))
  obtain ⟨x, ex, q⟩ := q1
  subst ex
  cases r1 with
  | cons r rr =>
    cases rr
    obtain ⟨t, rfl⟩ := r
    refine call_enumerate_str fun h' he hit hsz hk => wpAny_pyIter_enum he ?_
    have I2 : Inv X pins σ H1 { s1 with heap := h' } := I1.kept (t' := s1.toks) hk
    refine ⟨s1.heap.objs.size + 1, [s1.heap.objs.size + 1, s1.heap.objs.size], _, _, H1, rfl, I2, turn_enumS x t (s1.heap.objs.size + 1) s1.heap.objs.size, ⟨⟨.none, he⟩, hit, Nat.succ_ne_self _, Nat.zero_le _⟩, fun b hb => ?_, q⟩
    have e' : b = s1.heap.objs.size + 1 ∨ b = s1.heap.objs.size := by simpa using hb
    have hle : s1.heap.objs.size ≤ b := by
      rcases e' with z | z
      · rw [z]; exact Nat.le_add_right _ _
      · rw [z]; exact Nat.le_refl _
    exact I1.fpOk hle (I1.hok.fresh hle)
section
variable {G : GI} {B B' : Bs} {W : WX} {lk lk' L L' La Lb : List Nat} {Z Z' : Addr → Prop} {σ σ' : St} {H H' : Hp} {Γ Γ' Γ1 Γ2 Γ3 : List Nat} {en en' : En} {fps fps' : Nat → List Addr} {κ κ' k : Nat} {κs : List Nat} {v : V} {d : D} {ro : RO}
variable {X : Cx} {pos : Pos} {m ma mb mc : EM} {e a b c : Expr} {K : PySem.W.Frag}
theorem live_enumS {z : Str} : Live G (Itse z) (enumD (chars z)) fun _ _ => True where
  go := fun Z H i _ hi => by
    show i < z.cps.size
    unfold enumD chars at hi
    simpa using hi
  stop := fun Z H i _ hi => by
    show z.cps.size ≤ i
    unfold enumD chars at hi
    simpa using hi
  yld := fun Z H i d x H' _ hd ⟨T, c, e1, e2, hc, e3⟩ => by
    unfold enumD chars at hd
    rw [List.getElem?_mapIdx, List.getElem?_map, Array.getElem?_toList, hc] at hd
    cases hd
    exact .inr ⟨T, _, _, e1, e2, e3, rfl, OwnL.cons (fp := []) (fps := []) .int (OwnL.cons (fp := []) (fps := []) .str .nil)⟩
def dStrE : D → Option (List D)
  | .str z => some (enumD (chars z))
  | _ => none
theorem ii_enumS {p tpos : Pos} {elts : List Expr} {kk : Nat} {md : Md} (hg : Gl X "enumerate") (hm : X.mg "enumerate" = none) (h : OI X G W lk Γ e md Γ' m) (hs : starEach [e] X.env = [(false, eval e X.env)] := by rfl) (he : starEach (e :: []) X.env = (false, eval e X.env) :: starEach [] X.env := by rfl) :
    II X G W lk Γ (.Tuple elts kk tpos) (.Call (.Name "enumerate" p) [e] [] pos) [] Γ' (mIt dStrE m) := PI.imp (pi_enumS hg hm (pa_cons h pa_nil he) hs) fun σ H R ⟨B, Z, en, fps, C, o⟩ => by
  refine ⟨B, Z, en, fps, C, ?_⟩
  unfold mIt at o
  cases e : m en with
  | bad => rw [e] at o; exact o
  | exc c x => rw [e] at o; exact o
  | ok d en' =>
    rw [e] at o
    dsimp only at o
    intro v Z' H' fps' C' h'
    cases ed : dStrE d with
    | none => rw [ed] at o; exact o.elim
    | some ds =>
      rw [ed] at o
      unfold dStrE at ed
      split at ed
      · rename_i z
        cases ed
        obtain ⟨_, _, _, q⟩ := Md.any h'
        exact ⟨z, by rw [own_str q], o _ (fun _ _ => True) _ _ _ C' live_enumS fun _ _ _ _ _ _ _ _ => trivial⟩
      · cases ed
end
end Im
/-! Own exceptions over ValueError whose __init__ says super().__init__(value); self.value = value. -/
namespace PySem
namespace BoxX
open PySem.W PySem.Calls PyProof.Rows PySem.HandSPX
def iA (p1 p2 : Pos) (dv : Expr) : Arguments := { posonlyargs := [], args := [{ arg := "self", annotation := none, pos := p1 }, { arg := "value", annotation := none, pos := p2 }], vararg := none, kwonlyargs := [], kw_defaults := [], kwarg := none, defaults := [dv] }
def iB : List Stmt := [.Expr (.Call (.Attribute (.Call (.Name "super" ⟨5, 8, 5, 13⟩) [] [] ⟨5, 8, 5, 15⟩) "__init__" ⟨5, 8, 5, 24⟩) [.Name "value" ⟨5, 25, 5, 30⟩] [] ⟨5, 8, 5, 31⟩) ⟨5, 8, 5, 31⟩, .Assign [.Attribute (.Name "self" ⟨6, 8, 6, 12⟩) "value" ⟨6, 8, 6, 18⟩] (.Name "value" ⟨6, 21, 6, 26⟩) ⟨6, 8, 6, 26⟩]
def iS : Scope := { kind := .function, names := [(PySem.Str.ofString "self", .local), (PySem.Str.ofString "value", .local), (PySem.Str.ofString "__class__", .free), (PySem.Str.ofString "super", .globalImplicit)], isGenerator := false, isCoroutine := false, more := [] }
/-- what the written part says of the base class at D and of its __init__ at fI -/
structure BaseTxt (K : Frag) (prog : Program) (D fI : Addr) : Prop where
  fn : ∃ (oc : Value) (od : Option Addr) (T : Addr) (oT : Obj) (nT : Nat) (kV doc pm : Value) (an : Option Addr) (cda : Addr) (ct : Value) (osl : Array (Option Value)) (cc : Addr) (p1 p2 : Pos) (dv : Expr) (ccl : Value) (cdd : Option Addr) (vs : Array Value) (ccs : Array (Option Value)) (file : Str) (tf : Tok) (cl : Value) (cld : Option Addr) (csl : Array (Option Value)),
    K.lookup fI = some ⟨oc, od, .func (fnX "__init__" "BoxError.__init__" (iA p1 p2 dv) iB iS [("__class__", cc)] (.ref T) kV doc pm an (.ref cda) ct), osl⟩ ∧ codeIn K (.ref cda) "BoxError.__init__" = true ∧
      K.lookup T = some oT ∧ oT.data = .seq #[.none] nT ∧ K.lookup cda = some ⟨ccl, cdd, .fields vs, ccs⟩ ∧ vs[2]? = some (.str file tf) ∧ ((prog.main.file : Str) == file) = true ∧ K.lookup cc = some ⟨cl, cld, .cell (some (.ref D)), csl⟩
  D : ∃ cd, clsIn K D = some cd
  sup : nsIn K mainGlobals "super" = some none
  opq : nsIn K cStatics "thirdparty.any" = some none
  top : (prog.main.scope.names.lookup ("super" : Str)).isSome = false
  fty : typeIn K (.ref fI) = some (.type "function")
/-- what it says of the class C below (or at) D -/
structure ClsTxt (K : Frag) (D fI C : Addr) : Prop where
  ox : L2.OexC K C
  ga : findIn K (.ref C) "__getattribute__" = some (some (.builtin "BaseException.__getattribute__"))
  gg : findIn K (.ref C) "__getattr__" = some none
  no : findIn K (.ref C) "value" = some none
  ini : findIn K (.ref C) "__init__" = some (some (.ref fI))
  sub : mroIn K C (.ref D) = some true
  sup : ks_superIn K C D "__init__" = some (some (.builtin "ValueError.__init__"))
  ve : subIn K (.ref C) (.type "ValueError") = some true
  hd : hasDictIn K C = true
  is : isClsIn K C = true
  te : exmOne K (.ref C) (.ref D) = some true
section
variable {prog : Program} {w : World} {A : Around} {E : Value → Shared → Prop} {R : Result → Shared → Prop} {s : Shared} {K : Frag} {mg mb : Str → Option Value} {C D fI : Addr}
/-- the built-in __init__, bound, called -/
theorem call_mw {h : Heap} {g : Array GenState} {d : Drawn} {t : Nat} {os : OsState} {nm q : Str} {N u e t0 : Addr} {bs bm : List Value} {hdct : Bool} {sn : List Str} {sub : List Value} {ab : Bool} {col : Option Bool} {dd : Option Addr} {k0 k1 k2 k3 k5 : Option Value} {rest : List Value} {Q : Value → Shared → Prop}
    (hC : h.get? C = some (excClassObj nm q C N bs bm hdct sn sub ab col dd k0 k1 k2 k3 k5 "ValueError.__new__")) (he : h.get? e = some (excO C t0)) (hu : h.get? u = some (kxs_mw "ValueError.__init__" e)) (hrest : rest.length ≤ sizeLine)
    (hq : ∀ h' t1, (∀ b o, b ≠ e → h.get? b = some o → h'.get? b = some o) → h'.get? e = some (excO C t1) → Q .none ⟨h', g, d, t, os⟩) :
    wpAny (model prog w) A (call (.ref u) rest) Q E ⟨h, g, d, t, os⟩ := by
  refine wpAny_call (codeAny_of_tree ?_)
  show wpAny _ A.in1 (callAny (.ref u) ⟨rest, []⟩) _ _ _
  simp only [callAny]
  refine wpAny_bind (wpAny_load hu ?_)
  simp only [kxs_mw, show (Value.type "method-wrapper" == Value.type "method" || Value.type "method-wrapper" == Value.type "builtin_function_or_method" || Value.type "method-wrapper" == Value.type "method-wrapper") = true by decide, if_true]
  refine KFB.if_so (by decide) ?_
  refine wpAny_bind (ESX.check_bound F.excBase_ValueError hC he rfl ?_)
  refine wpAny_bind (wpAny_pure (wpAny_pure ?_))
  refine ⟨Code.quiet_builtin _ (by decide +kernel), codeAny_builtin F.excBase_ValueError.initEntry ?_⟩
  rw [Around.under_plainId F.excBase_ValueError.init.plain _]
  wp_walk
  refine hq _ h.objs.size (fun b o hb ho => ?_) ?_
  · rw [Heap.get?_update_other _ _ (Ne.symm hb)]
    exact Heap.get?_push_of_some _ ho
  · rw [Heap.get?_update_self _ (Heap.get?_push_of_some _ he) rfl]
    rfl
/-- what __init__ leaves of a fresh exception at x -/
structure InitEnd (h h' : Heap) (x C dx t1 : Addr) (v : Value) : Prop where
  keep : ∀ b o, b ≠ x → h.get? b = some o → h'.get? b = some o
  obj : h'.get? x = some { cls := .ref C, dict := some dx, data := .fields #[.ref t1, .none, .none, .none, .bool false, .none] }
  dbig : h.objs.size ≤ dx
  dne : dx ≠ x
  ns : h'.Ns1 dx (fun y => if y = "value" then some v else none)
theorem box_init (T : BaseTxt K prog D fI) (TC : ClsTxt K D fI C) {x t0 : Addr} {v : Value} (X : K.In s.heap) (hg : s.heap.Ns mainGlobals mg) (hb : s.heap.Ns builtinsNs mb) (hbs : mb "super" = bootBuiltins "super") (hlim : s.heap.NoLimit) (hx : s.heap.get? x = some (excO C t0)) (hnx : K.lookup x = none) (hroom : A.depth < recursionLimit)
    (hq : ∀ h' tk dx t1, InitEnd s.heap h' x C dx t1 v → R (.ok (.ret .none)) { s with heap := h', toks := tk }) :
    codeAny (model prog w) A (.call (.ref fI) ⟨[.ref x, v], []⟩) R s := by
  obtain ⟨oc, od, T0, oT, nT, kV, doc, pm, an, cda, ct, osl, cc, p1, p2, dv, ccl, cdd, vs, ccs, file, tf, cl, cld, csl, hf, hcd, hT, hTd, hcode, hvs, hfile, hcell⟩ := T.fn
  obtain ⟨nm, q, N, bs, bm, sn, sub, ab, col, dd, k0, k1, k2, k3, k5, hC, hbm⟩ := TC.ox.cls
  obtain ⟨cdD, hD⟩ := T.D
  have hcl : clsIn K C = some { name := nm, bases := bs, mro := .ref C :: bm, ns := N, qualname := q, hasDict := true, slotNames := sn, subclasses := sub, abstract := ab, collection := col, hasDel := false } := by unfold clsIn; rw [hC] <;> rfl
  refine ks_codeAny_call_defAt (fd := fnX "__init__" "BoxError.__init__" (iA p1 p2 dv) iB iS [("__class__", cc)] (.ref T0) kV doc pm an (.ref cda) ct) (body := iB) (binds := [("self", .ref x), ("value", v)]) hroom (X _ _ hf) rfl hlim (codeRec_of X hcd) rfl
    (binds_K X rfl hT hTd (by rfl) (by rfl)) (show ∀ y ∈ iS.names, y.2 ≠ .cell by decide) (fun y hy => ?_) (fun h₁ hns k => ?_) rfl rfl rfl
  · rcases List.mem_cons.mp hy with rfl | hy
    · rfl
    · rcases List.mem_cons.mp hy with rfl | hy
      · rfl
      · cases hy
  have X₁ : K.In h₁ := X.keeps k
  have hx₁ := k _ _ hx
  obtain ⟨oD, hD1, hD2⟩ : ∃ oD, h₁.get? D = some oD ∧ oD.data = .cls cdD := by
    unfold clsIn at hD
    split at hD
    · rename_i c d cd' sl ho
      cases hD
      exact ⟨_, X₁ _ _ ho, rfl⟩
    · cases hD
  have I₁ : InstAt h₁ x (excO C t0) C none := ⟨hx₁, rfl, rfl, trivial⟩
  have m1 : (fun x_1 => List.lookup x_1 [(PySem.Str.ofString "self", Value.ref x), (PySem.Str.ofString "value", v)].reverse) "self" = some (.ref x) := by rfl
  have m2 : (fun x_1 => List.lookup x_1 [(PySem.Str.ofString "self", Value.ref x), (PySem.Str.ofString "value", v)].reverse) "value" = some v := by rfl
  -- super().__init__(value)
  refine ks_wpAt_execs_cons (ks_wpAt_Expr_any (ks_wpAt_MethodCall (pl := _) (ks_wpAt_super_base (ar := { arg := "self", annotation := none, pos := p1 }) rfl rfl (by decide) rfl (X₁ _ _ hf) rfl rfl rfl (X₁ _ _ hcode) rfl hvs hfile T.top ?_)))
  refine ks_loadName_global rfl rfl (loadGlobal_builtin (hg.keeps k) (mg_none_of X hg T.sup) (hb.keeps k) (hbs.trans (by first | rfl | kernel_rfl)) ⟨rfl, ?_⟩)
  refine wpAny_loadName_free rfl rfl rfl ⟨_, X₁ _ _ hcell, rfl⟩ ?_
  refine wpAny_loadName_local rfl rfl hns m1 ?_
  refine ks_wpAny_isType_cls hD1 hD2 ⟨rfl, ?_⟩
  refine ks_wpAny_call_super hD1 hD2 I₁.at_ I₁.cls (fun c e => by cases e) (looks_mroIn X₁ TC.sub) (fun h₂ hso k₂ => ?_)
  have X₂ : K.In h₂ := X₁.keeps k₂
  have hx₂ := k₂ _ _ hx₁
  have I₂ : InstAt h₂ x (excO C t0) C none := ⟨hx₂, rfl, rfl, trivial⟩
  have hsup : alongIn K "__init__" (((Value.ref C :: bm).dropWhile (· != .ref D)).drop 1) = some (some (.builtin "ValueError.__init__")) := by
    have q := TC.sup
    unfold ks_superIn at q
    rw [hcl] at q
    exact q
  refine kxs_getMethod kxs_ValueError hso (looks_opaque X₂ T.opq) (l₀ := .ref C :: bm) (fun A Q E s k q => wpAny_bind ((looks_clsIn X₂ hcl) A _ E s k (wpAny_pure q))) rfl X₂ hsup (I₂.type.andThen (looks_subIn X₂ TC.ve)) (ks_ne X₂ I₂ hcl) (by decide) ?_
  have k₃ : ∀ b o, h₂.get? b = some o → (h₂.push (kxs_mw "ValueError.__init__" x)).get? b = some o := fun b o e => Heap.get?_push_of_some _ e
  have hu : (h₂.push (kxs_mw "ValueError.__init__" x)).get? h₂.objs.size = some (kxs_mw "ValueError.__init__" x) := Heap.get?_push_at rfl rfl
  refine kxs_callWith (i := "ValueError.__init__") (x := x) (by rfl) ?_
  refine evalArgs_plain (args_cons (wpAny_Name (wpAny_loadName_local rfl rfl (hns.keeps fun b o e => k₃ b o (k₂ b o e)) m2 (args_nil ⟨hu, ?_⟩)) (by decide)) (by rfl))
  have kk : ∀ b o, s.heap.get? b = some o → (h₂.push (kxs_mw "ValueError.__init__" x)).get? b = some o := fun b o e => k₃ b o (k₂ b o (k b o e))
  refine call_mw ((X.keeps kk) _ _ hC) (k₃ _ _ hx₂) hu (by show 1 ≤ sizeLine; decide) fun h₄ t1 k₄ hx₄ => ?_
  -- self.value = value
  have hLx : s.heap.objs.size ≠ x := Nat.ne_of_gt (Heap.lt_size hx)
  have hns₄ : h₄.Ns s.heap.objs.size (fun x_1 => List.lookup x_1 [(PySem.Str.ofString "self", Value.ref x), (PySem.Str.ofString "value", v)].reverse) := by
    obtain ⟨o, es, ep, ho, r⟩ := hns
    exact ⟨o, es, ep, k₄ _ _ hLx (k₃ _ _ (k₂ _ _ ho)), r⟩
  have keep₄ : ∀ b o, b ≠ x → s.heap.get? b = some o → h₄.get? b = some o := fun b o hb e => k₄ b o hb (kk b o e)
  have X₄ : K.In h₄ := fun b o e => keep₄ b o (fun z => by
    subst z
    rw [hnx] at e; cases e) (X _ _ e)
  refine wpAt_of_wpAny (wpAny_execs_cons (plainObj_wpAny_Assign_Attribute ?_ (by rfl)))
  refine wpAny_Name (wpAny_loadName_local rfl rfl hns₄ m2 (wpAny_Name (wpAny_loadName_local rfl rfl hns₄ m1 ?_) (by decide))) (by decide)
  refine set_plain X₄ (ox := excO C t1) (od := none) ⟨hx₄, rfl, rfl, trivial⟩ TC.ox.sa ?_
  refine exc_osa X₄ hx₄ hcl (show refsVE (.ref C :: bm) = true from hbm) rfl TC.no (fun h₅ tk₅ dx k₅ dn dne hx₅ hn₅ => ?_)
  refine wpAny_execs_nil (hq h₅ tk₅ dx t1 ⟨fun b o hb e => k₅ b o hb (keep₄ b o hb e), hx₅, ?_, dne, hn₅⟩)
  refine Nat.le_trans ?_ dn
  have z := hns₄.lt
  exact Nat.le_of_lt z
/-- an exception just made -/
structure Made (h h' : Heap) (e C d : Addr) (v : Value) : Prop where
  keep : ∀ b o, h.get? b = some o → h'.get? b = some o
  new : h.objs.size ≤ e
  obj : ∃ oe vs, h'.get? e = some oe ∧ oe.cls = .ref C ∧ oe.dict = some d ∧ oe.data = .fields vs ∧ vs[1]? = some .none
  dbig : h.objs.size ≤ d
  dne : d ≠ e
  ns : h'.Ns1 d (fun y => if y = "value" then some v else none)
theorem box_made (T : BaseTxt K prog D fI) (TC : ClsTxt K D fI C) {v : Value} (X : K.In s.heap) (hg : s.heap.Ns mainGlobals mg) (hb : s.heap.Ns builtinsNs mb) (hbs : mb "super" = bootBuiltins "super") (hlim : s.heap.NoLimit) (hroom : A.depth + 1 < recursionLimit)
    (hq : ∀ h' tk e d, Made s.heap h' e C d v → R (.ok (.ret (.ref e))) { s with heap := h', toks := tk }) :
    codeAny (model prog w) A (.call (.ref C) ⟨[v], []⟩) R s := by
  obtain ⟨nm, q, N, bs, bm, sn, sub, ab, col, dd, k0, k1, k2, k3, k5, hC, hbm⟩ := TC.ox.cls
  obtain ⟨hp, g, dr, tk, os⟩ := s
  have k : ∀ b o, hp.get? b = some o → ((hp.push (kdv_tup [v])).push (excO C hp.objs.size)).get? b = some o := fun b o e => Heap.get?_push_of_some _ (Heap.get?_push_of_some _ e)
  have hget : ((hp.push (kdv_tup [v])).push (excO C hp.objs.size)).get? (hp.objs.size + 1) = some (excO C hp.objs.size) := by heap_get
  have hnx : K.lookup (hp.objs.size + 1) = none := by
    cases e : K.lookup (hp.objs.size + 1) with
    | none => rfl
    | some o =>
      have z : hp.get? (hp.objs.size + 1) = some o := X _ _ e
      exact absurd (Nat.lt_of_succ_lt (Heap.lt_size z)) (Nat.lt_irrefl _)
  refine call_own F.excBase_ValueError (fun X => refsVE_contains X bm hbm) (X _ _ hC) (looks_findIn X TC.ini) (fun self => bind_fn X self T.fty) (by show 1 ≤ sizeLine; decide) ?_
  refine box_init (s := ⟨(hp.push (kdv_tup [v])).push (excO C hp.objs.size), g, dr, tk, os⟩) T TC (X.keeps k) (hg.keeps k) (hb.keeps k) hbs (hlim.keeps k) hget hnx ?_ fun h' tk' dx t1 ⟨k', hx, dn, dne, hns⟩ => ?_
  · show A.depth + 1 < recursionLimit
    exact hroom
  · have old : ∀ b o, hp.get? b = some o → h'.get? b = some o := fun b o e => k' b o (Nat.ne_of_lt (Nat.lt_succ_of_lt (Heap.lt_size e))) (k b o e)
    have z : hp.objs.size + 1 + 1 ≤ dx := by
      first
        | (simpa only [Heap.size_push] using dn)
        | exact dn
        | (have q := dn; rw [Heap.size_push, Heap.size_push] at q; exact q)
    exact ⟨rfl, hq h' tk' (hp.objs.size + 1) dx ⟨old, Nat.le_succ _, ⟨_, _, hx, rfl, rfl, rfl, rfl⟩, Nat.le_trans (Nat.le_trans (Nat.le_succ _) (Nat.le_succ _)) z, dne, hns⟩⟩
end
end BoxX
end PySem
namespace Im
open PySem PySem.Spec PyProof.Rows L2
theorem relO_val {v : V} {v' : Value} (r : RelV v v') (f : Str) : RelO (List.lookup f [(("value" : Str), v)]) (if f = "value" then some v' else none) := by
  by_cases hw : f = "value"
  · subst hw
    rw [if_pos rfl]
    have q : List.lookup ("value" : Str) [(("value" : Str), v)] = some v := by simp [List.lookup]
    rw [q]
    exact r
  · rw [if_neg hw]
    have qw : (f == ("value" : Str)) = false := by simpa using hw
    have q2 : List.lookup f [(("value" : Str), v)] = none := by simp [List.lookup, qw]
    rw [q2]
    trivial
section
variable {X : Cx} {C D fI : Addr}
/-- C(e) -/
def tMkB (C : Addr) (ta : TA) : St → Hp → XK → Prop := fun σ H Q => ta σ H fun vs H1 => ∃ v, vs = [v] ∧ ∀ d, H1 d = none → Q (.ref C) (some d) (upd H1 d (.xd [(("value" : Str), v)]))
theorem pmk_box {a : Expr} {ta : TA} {p pos : Pos} {k : Nat} {x : Str} (T : PySem.BoxX.BaseTxt X.K X.prog D fI) (TC : PySem.BoxX.ClsTxt X.K D fI C) (hr : Room k X.A) (hm : X.mg x = some (.ref C)) (ha : PA X [a] ta) (hg : Gl X x)
    (hdb : (x == ("__debug__" : Str)) = false := by decide) (he : starEach (a :: []) X.env = (false, eval a X.env) :: starEach [] X.env := by rfl) (hpl : (backTo pos (starEach [] X.env)).any (·.1) = false := by rfl) :
    PMk X (.Call (.Name x p) [a] [] pos) (tMkB C ta) := by
  intro pins s σ H Q I h
  refine wpAny_Call_Name_kw (ld_glob I hg hm ?_ hdb)
  refine PySem.W.callWith_K (h₀ := X.base) I.ok.mod.kin TC.ox.kC (thn (ha.run pos pins s σ H _ I h) fun us s1 hh => ?_) he hpl
  obtain ⟨vs, H1, I1, r1, v, ev, q1⟩ := hh
  subst ev
  refine ⟨I1.kIn, ?_⟩
  cases r1 with
  | cons rv rn =>
    rename_i v' us'
    cases rn
    show wpAny _ _ (call (.ref C) [v']) _ _ _
    have hlim := I1.nolimit
    have hM := I1.ok.mod
    have hbk := I1.bk
    obtain ⟨mb, hb1, hb2⟩ := hM.blt
    obtain ⟨hp, g, dr, tk, os⟩ := s1
    refine wpAny_call (PySem.BoxX.box_made T TC I1.kIn (hM.glob.keeps hbk) (hb1.keeps hbk) (hb2 "super" (by decide +kernel)) hlim (by have := hr.dp; omega) fun h' tk' e d M => ?_)
    show MkP X pins σ Q (.ref e) ⟨h', g, dr, tk', os⟩
    obtain ⟨oe, fv, hoe, hc, hd, hdat, h1⟩ := M.obj
    have hns := M.ns
    obtain ⟨G', g1, g2⟩ := restrict h' fun b => decide (b ≠ e)
    have gk : ∀ b, b ≠ e → G'.get? b = h'.get? b := fun b hb => g1 b (decide_eq_true hb)
    have ge : G'.get? e = none := g2 e (by simp)
    have old : ∀ b o, hp.get? b = some o → G'.get? b = some o := fun b o q => (gk b (Nat.ne_of_lt (Nat.lt_of_lt_of_le (Heap.lt_size q) M.new))).trans (M.keep b o q)
    have ob : ObjOk X.prog X.w (upd H1 d (.xd [(("value" : Str), v)])) G' d (.xd [(("value" : Str), v)]) :=
      ⟨_, hns.at (fun o q => (gk d M.dne).trans q), fun f => relO_val rv f⟩
    have J : Inv X pins σ (upd H1 d (.xd [(("value" : Str), v)])) ⟨G', g, dr, tk', os⟩ := I1.laid (t' := tk') old M.dbig ob
    refine ⟨e, oe, fv, ⟨G', g, dr, tk', os⟩, _, .ref C, some d, rfl, J, fun b o q => ?_, ge, hoe, ⟨hc, hd⟩, hdat, h1, ?_, rfl, I1.bare, raises_own TC.ox.exC TC.ox.tyC, q1 d (I1.hok.fresh M.dbig)⟩
    · by_cases hb : b = e
      · have q' : G'.get? b = some o := q
        rw [hb, ge] at q'; cases q'
      · exact (gk b hb).symm.trans q
    · rw [upd_ne (Ne.symm M.dne)]
      exact I1.hok.fresh M.new
end
section
variable {G : GI} {B B' : Bs} {W : WX} {lk lk' L L' La Lb : List Nat} {Z Z' : Addr → Prop} {σ σ' : St} {H H' : Hp} {Γ Γ' Γ1 Γ2 Γ3 : List Nat} {en en' : En} {fps fps' : Nat → List Addr} {κ κ' k : Nat} {κs : List Nat} {v : V} {d : D} {ro : RO}
variable {X : Cx} {pos : Pos} {m ma mb mc : EM} {e a b c : Expr} {C Da fI : Addr}
def mRaise (c : Str) (m : EM) : SM := fun en => match m en with
  | .ok d _ => .exc c d
  | .exc c x => .exc c x
  | .bad => .bad
/-- raise C(e); e's value stands still -/
theorem si_raise {x : Str} {p p2 : Pos} {k : Nat} (hc : X.calm = true) (hW : WFree W) (T : PySem.BoxX.BaseTxt X.K X.prog Da fI) (TC : PySem.BoxX.ClsTxt X.K Da fI C) (hr : Room k X.A) (hm : X.mg x = some (.ref C)) (hC : G.cls x = some C) (hg : Gl X x) (tk : Takes X W) (he : EI X G W lk Γ e 0 [] Γ1 m)
    (hdb : (x == ("__debug__" : Str)) = false := by decide) (hs : starEach (e :: []) X.env = (false, eval e X.env) :: starEach [] X.env := by rfl) (hpl : (backTo p2 (starEach [] X.env)).any (·.1) = false := by rfl) :
    SI X G W lk ro Γ (.Raise (some (.Call (.Name x p) [e] [] p2)) none pos) Γ' (mRaise x m) :=
  PS.imp (ps_raise hc tk (pmk_box T TC hr hm (pa_cons he pa_nil hs) hg hdb hs hpl)) fun Dd σ H ⟨B, Z, en, fps, P, C1, o⟩ => by
    refine ⟨B, Z, en, fps, C1, ?_⟩
    unfold mRaise at o
    cases em : m en with
    | bad => rw [em] at o; exact o
    | exc c x => rw [em] at o; exact fun Cc dd H' y => o Cc dd σ H' y
    | ok d en' =>
      rw [em] at o
      intro v Z' H' fps' fp C' h'
      refine ⟨v, rfl, fun dd hd => ?_⟩
      have q := h'.own
      have z := q.z0
      rw [z] at q
      have C2 := C'.grow (o := .xd [(("value" : Str), v)]) hd
      have q2 : Own G Z' (upd H' dd (.xd [(("value" : Str), v)])) 0 v d [] := (own_keep (fun a u q _ => upd_keep hd a u q) (fun a z => ⟨z, fun u q => upd_keep hd a u q⟩) q fun a m => nomatch m).monoZ fun a z => Zl_nil.mp z
      refine o C dd σ _ ⟨hC, ⟨v, Z', upd_same, q2, C2.zb, C2.zn, C2.zt⟩, C2.keep⟩
end
end Im
/-! try: .. except X as n: y = n. The exception is tracked behind. -/
namespace Im
open PySem PySem.Spec PyProof.Rows L2
/-- an exception of the class cls at a, its dict d -/
def ExAt (cls : Value) (d : Option Addr) (a : Addr) : HO := .ext fun h => ∃ (oe : Obj) (vs : Array Value), h.get? a = some oe ∧ Zc cls d oe ∧ oe.data = .fields vs
theorem exAt_ok {P : Program} {w : World} {H : Hp} {h : Heap} {a : Addr} {cls : Value} {d : Option Addr} {oe : Obj} {vs : Array Value} (e : h.get? a = some oe) (z : Zc cls d oe) (f : oe.data = .fields vs) : ObjOk P w H h a (ExAt cls d a) :=
  ⟨⟨oe, vs, e, z, f⟩, ⟨oe, e⟩, fun _ _ ⟨o, v, q, r⟩ k => ⟨o, v, k o q, r⟩⟩
theorem exAt_at {P : Program} {w : World} {H : Hp} {h : Heap} {a : Addr} {cls : Value} {d : Option Addr} (x : HOk P w H h) (e : H a = some (ExAt cls d a)) : ∃ (oe : Obj) (vs : Array Value), h.get? a = some oe ∧ Zc cls d oe ∧ oe.data = .fields vs := by
  have y : ObjOk P w H h a (.ext fun h => ∃ (oe : Obj) (vs : Array Value), h.get? a = some oe ∧ Zc cls d oe ∧ oe.data = .fields vs) := x a _ e
  exact y.1
section
variable {X : Cx} {pins : List (Addr × Obj)} {σ : L2.St} {H : Hp} {s sI : Shared} {a : Addr} {o : HO}
/-- an object that was not there at the entry is tracked -/
theorem Inv.track (I : L2.Inv X pins σ H s) (hn : H a = none) (h0 : X.s_0.heap.get? a = none) (hL : a ≠ X.env.locals) (hc : ∀ x c, X.env.cells.lookup x = some c → c ≠ a) (hp : ∀ p ∈ X.pn ++ pins, p.1 ≠ a) (new : ObjOk X.prog X.w (upd H a o) s.heap a o) : L2.Inv X pins σ (upd H a o) s where
  ok := I.ok
  os := I.os
  bare := I.bare
  base := {
    keep := I.base.keep
    slot := I.base.slot
    free := fun b u q n x => by
      rw [upd_ne fun z => by rw [z, h0] at q; cases q]
      exact I.base.free b u q n x
    there := I.base.there
    tups := fun b xs q => by
      have y := I.base.tups b xs q
      rw [upd_ne (ne_of_none y hn)]; exact y
    frzs := fun b u xs q => by
      have y := I.base.frzs b u xs q
      rw [upd_ne (ne_of_none y hn)]; exact y
    tbls := fun b ps q => by
      obtain ⟨more, y⟩ := I.base.tbls b ps q
      exact ⟨more, by rw [upd_ne (ne_of_none y hn)]; exact y⟩ }
  loc := I.loc
  cell := I.cell
  free := by rw [upd_ne (Ne.symm hL)]; exact I.free
  freeC := fun x c e => by rw [upd_ne (hc x c e)]; exact I.freeC x c e
  pin := fun p m => by
    obtain ⟨q1, q2, q3⟩ := I.pin p m
    exact ⟨q1, by rw [upd_ne (hp p m)]; exact q2, q3⟩
  hok := I.hok.laidN (fun _ _ e => e) hn new
  len := I.len
variable {x n y : Str} {c : Value} {i j : Nat} {body : List Stmt} {np pos pos' py pn2 sp : Pos} {tb : WX → TS} {Wout : WX}
/-- what the clause «except x as n: y = n» wishes: the exception stands in the slot j, tracked -/
def wKeep (K : PySem.W.Frag) (c : Value) (i j : Nat) (Wout : WX) (D : Ends) : WX := fun cls d σ H =>
  ∃ b, PySem.W.exmOne K cls c = some b ∧ (b = true → ∀ a, H a = none → D.nx (((σ.set i (some (.ref a))).set j (some (.ref a))).set i none) (upd H a (ExAt cls d a))) ∧ (b = false → Wout cls d σ H)
theorem ps_try_keep (hs : X.stack = X.env :: X.outer) (hf : X.env.frame = some X.env.locals) (hex : X.ex = []) (hN : X.N.Nodup) (hi : X.N[i]? = some n) (hln : X.env.kindOf n = some .local) (hj : X.N[j]? = some y) (hlj : X.env.kindOf y = some .local) (hc : Names X x c) (tk : Takes X Wout)
    (hdn : (n == ("__debug__" : Str)) = false) (hdc : (n == ("__classdict__" : Str)) = false)
    (hsw : ∀ env : Env, swapsWith (.Name n pn2) (some (.Name y py)) sp.line env = pure false)
    (hb : ∀ (W : WX) (pn : List (Addr × Obj)) (xe : Value → Shared → Prop), Takes (X.tr pn xe) W → PassesOwn (model X.prog X.w) X.A X.env xe → PSs (X.tr pn xe) body (tb W)) :
    PS X (.Try body [.ExceptHandler (some (.Name x np)) (some n) [.Assign [.Name y py] (.Name n pn2) sp] pos'] [] [] pos) (fun D σ H => tb (wKeep X.K c i j Wout D) D σ H) := by
  refine ⟨fun pins s σ H D I h => ?_⟩
  have ok := I.ok
  have hfr : X.A.frames = some (X.env :: X.outer) := by rw [ok.frames, hs]
  refine wpAny_Try_except ?_
  refine wpAny_mono ((hb (wKeep X.K c i j Wout D) (X.pn ++ pins) (fun e s₁ => wpAny (model X.prog X.w) X.A (noteFrame e X.env) (fun _ s₂ => wpAny (model X.prog X.w) X.A (setFlight e none) (fun _ s₃ =>
    wpAny (model X.prog X.w) X.A (handleBy e X.env [.ExceptHandler (some (.Name x np)) (some n) [.Assign [.Name y py] (.Name n pn2) sp] pos']) (SP X pins D) X.xe s₃) X.xe s₂) X.xe s₁) (fun u s' xx => ?_) PassesOwn.looking).run [] s σ H D (I.toTry _) h) (fun f s1 hsp => ?_) (fun e s1 he => he)
  · obtain ⟨a, B, sI, pins', σ', H', cls, d, rfl, J', nb, up, sky, na, os, ag, b, hb1, hyes, hno⟩ := xx
    have J : L2.Inv X pins σ' H' sI := J'.ofTry ok
    have sky' : Sky B (X.env :: X.outer) a (Zc cls d) X.env.locals s'.heap := by rw [← hs]; exact sky
    show wpAny (model X.prog X.w) X.A (noteFrame (.ref a) X.env) _ _ _
    refine Sky.land Zc.steady hfr hf sky' fun h3 fl3 up3 => ?_
    have J3 : L2.Inv X pins σ' H' { s' with heap := h3 } := J.landed nb fl3.1 (up.trans up3) os ag
    obtain ⟨oe3, vs3, he3, hz3, hd3⟩ := fl3.there
    have nfr : a ∉ frs (X.env :: X.outer) := fun hm => by
      obtain ⟨_, o', e', hnf⟩ := fl3.2.2.1.mem hm
      rw [he3] at e'; cases e'
      exact hnf _ hd3
    have aI : sI.heap.get? a = none := by
      cases q : sI.heap.get? a with
      | none => rfl
      | some o =>
        have z := nb a o q (by rw [hs]; exact nfr)
        rw [fl3.2.1] at z; cases z
    have nL : a ≠ X.env.locals := fun z => nfr (List.mem_filterMap.mpr ⟨X.env, List.mem_cons_self, by rw [hf, z]⟩)
    have nF : a ∉ X.fs := fun hm => by
      obtain ⟨e, he, q⟩ := List.mem_filterMap.mp hm
      exact nfr (List.mem_filterMap.mpr ⟨e, List.mem_cons_of_mem _ he, q⟩)
    have n0 : X.s_0.heap.get? a = none := by
      cases q : X.s_0.heap.get? a with
      | none => rfl
      | some o =>
        obtain ⟨o', e'⟩ := J.base.there a o q (by rw [hex]; simp)
        rw [aI] at e'; cases e'
    have nC : ∀ x c, X.env.cells.lookup x = some c → c ≠ a := fun x c e z => by
      obtain ⟨v, o, q, _⟩ := J.cell x c e
      rw [z, aI] at q; cases q
    have nP : ∀ p ∈ X.pn ++ pins, p.1 ≠ a := fun p m z => by
      have q := (J.pin p m).1
      rw [z, aI] at q; cases q
    have S3 := J3.suite he3 hd3 na nL nF
    refine wpAny_handleBy_cons (codeAny_handlers_test ?_) (by intro q; cases q)
    have LT : PySem.W.Looks (model X.prog X.w) h3 (typeOf (.ref a)) cls := fun A Q E s k q => wpAny_typeOf_ref (k _ _ he3) (by rw [hz3.1]; exact q)
    have LM := PySem.W.exm_one (M := model X.prog X.w) (J3.kIn) LT hb1
    have test : ∀ {Q : Value → Shared → Prop} {E : Value → Shared → Prop}, Q c { s' with heap := h3 } → wpAny (model X.prog X.w) (X.A.mark (some (.ref a))) (eval (.Name x np) X.env) Q E { s' with heap := h3 } := fun {Q E} q => by
      obtain ⟨hg, hdbg, hm | ⟨hm, hv, hnn⟩⟩ := hc
      · exact ld_glob (X := X.suite a ((a, oe3) :: (X.pn ++ pins))) S3 hg hm q hdbg
      · exact ld_blt (X := X.suite a ((a, oe3) :: (X.pn ++ pins))) S3 hg hm hv q hnn hdbg
    refine test (LM.here ?_)
    cases b with
    | true =>
      refine codeAny_handlers_suite_as ?_
      refine HandSPX.lands_againZ fl3 fun h4 fl4 up4 => ?_
      have J4 : L2.Inv X pins σ' H' { s' with heap := h4 } := J.landed nb fl4.1 ((up.trans up3).trans up4) os ag
      obtain ⟨oe4, vs4, he4, hz4, hd4⟩ := fl4.there
      have S4 := J4.suite he4 hd4 na nL nF
      have hle : σ'.length = X.N.length := S4.len
      have hil : i < σ'.length := by rw [hle]; exact (List.getElem?_eq_some_iff.mp hi).1
      refine store_ok (X := X.suite a ((a, oe4) :: (X.pn ++ pins))) (v := .ref a) S4 hN hi (.inl hln) rfl (fun s5 S5 => ?_) (.inr hln)
      have ps := ps_set (X := X.suite a ((a, oe4) :: (X.pn ++ pins))) (pos := sp) (pos' := py) hN hj (.inl hlj) (pe_var (pos := pn2) hi (.inl hln) hdn hdc) (hsw _) (.inr hlj)
      refine wpAny_mono ((pss_one ps).run [] s5 _ H' { nx := fun σ6 H6 => σ6 = (σ'.set i (some (.ref a))).set j (some (.ref a)) ∧ H6 = H', rt := fun _ _ => False } S5 ⟨.ref a, List.getElem?_set_self hil, rfl, rfl⟩) (fun f s6 hsp => ?_) (fun _ _ z => False.elim z)
      cases f with
      | next =>
        obtain ⟨σ6, H6, S6, rfl, rfl⟩ := hsp
        obtain ⟨he6, _⟩ := S6.pin (a, oe4) (List.mem_append_left _ List.mem_cons_self)
        have T6 : L2.Inv X pins _ (upd H6 a (ExAt cls d a)) s6 := Inv.track (S6.unsuite ok) na n0 nL nC nP (exAt_ok he6 hz4 hd4)
        exact gone_ok T6 hN hi hln fun s7 J7 => ⟨_, _, J7, hyes rfl a na⟩
      | brk =>
        obtain ⟨σ6, H6, S6, q6⟩ := hsp
        exact (show False from q6).elim
      | cont =>
        obtain ⟨σ6, H6, S6, q6⟩ := hsp
        exact (show False from q6).elim
      | ret u =>
        obtain ⟨v6, σ6, H6, S6, r6, q6⟩ := hsp
        exact (show False from q6).elim
    | false =>
      show wpAny _ X.A (handleBy (.ref a) X.env []) _ _ _
      refine wpAny_handleBy_nil ?_
      obtain ⟨k1, k2, k3, oe, vs, T, oT, ts', he, hz, hd, h1, hr⟩ := id fl3
      unfold PySem.passOn
      refine wpAny_bind (wpAny_field he hd h1 ?_)
      rw [if_neg (show ¬ ((Value.ref T == Value.none) = true) from by simp)]
      have fin : wpAny (model X.prog X.w) X.A (setFlight (.ref a) X.env.frame) (fun _ s4 => wpAny (model X.prog X.w) X.A (throw (.ref a) : Sem Flow) (SP X pins D) X.xe s4) X.xe { s' with heap := h3 } := by
        rw [hf]
        refine HandSPX.setFlight_upZ fl3 fun h4 hh4 up4 => wpAny_throw (tk _ _ ?_)
        exact ⟨a, B, sI, pins, σ', H', cls, d, rfl, J, nb, (up.trans up3).trans up4, .inr (.inr (by rw [hs]; exact hh4)), na, os, ag, hno rfl⟩
      first
        | exact wpAny_bind (wpAny_pure (wpAny_bind fin))
        | exact wpAny_bind fin
  · cases f with
    | next =>
      obtain ⟨σ', H', J', q⟩ := hsp
      exact wpAny_execs_nil ⟨σ', H', J'.ofTry ok, q⟩
    | brk =>
      obtain ⟨σ', H', J', q⟩ := hsp
      exact ⟨σ', H', J'.ofTry ok, q⟩
    | cont =>
      obtain ⟨σ', H', J', q⟩ := hsp
      exact ⟨σ', H', J'.ofTry ok, q⟩
    | ret u =>
      obtain ⟨v, σ', H', J', r, q⟩ := hsp
      exact ⟨v, σ', H', J'.ofTry ok, r, q⟩
end
end Im
/-! A tracked exception asked: isinstance, its value; the statement try. -/
namespace Im
section
open PySem PySem.Spec PySem.Calls PyProof.Rows PySem.W
variable {prog : Program} {w : World} {A : Around} {E : Value → Shared → Prop} {s : Shared} {K : Frag} {x Dc : Addr} {ox : Obj} {od : Option Obj}
theorem find_data {C : Addr} {name : Str} {a g : Value} {od : Option Obj} (hc : (clsIn K C).isSome = true) (ha : findIn K (.ref C) name = some (some a)) (hg : specialIn K a "__get__" = some (some g)) (ht : takesIn K a = some true) : findObj K C od name = some (.bind g a) := by
  obtain ⟨cd, hc⟩ := Option.isSome_iff_exists.mp hc
  unfold findObj
  rw [hc, Option.bind_some, ha, Option.bind_some]
  simp [hg, ht]
/-- x.__class__, x an exception with or without a dict -/
theorem exc_class {Q : Option Value → Shared → Prop} (C : L2.ExcC K Dc) (X : K.In s.heap) (I : InstAt s.heap x ox Dc od) (h : Q (some (.ref Dc)) { s with toks := s.toks + 1 }) : wpAny (model prog w) A (getAttr? (.ref x) "__class__") Q E s := by
  have hf : findObj K Dc od "__class__" = some (.bind (.builtin "getset_descriptor.__get__") (.builtin "object.__class__")) := find_data (by obtain ⟨cd, hc, _⟩ := any_some C.hd; rw [hc]; rfl) C.ha C.hn C.ht
  obtain ⟨hp, g, d, t, os⟩ := s
  have L0 := I.type (M := model prog w)
  have L1 := looks_findIn (M := model prog w) X C.hg
  have L2 := looks_findIn (M := model prog w) X C.hk
  have L3 := looks_find (M := model prog w) X I hf
  have sub : Looks (model prog w) hp (isInstance (.ref x) (.type "BaseException")) true := L0.andThen (looks_subIn X C.hs)
  have hx2 : (Value.builtin "BaseException.__getattribute__" == Value.builtin "object.__getattribute__") = false := by decide +kernel
  have hx1 : (onTheHeap (Value.ref Dc) && Value.builtin "BaseException.__getattribute__" == Value.builtin "object.__getattribute__") = false := by rw [hx2]; rfl
  have hx0 : (false && onTheHeap (Value.builtin "BaseException.__getattribute__")) = false := rfl
  unfold getAttr? getAttrBy? getAttrBy
  refine wpAny_bind (wpAny_mkText (wpAny_bind (wpAny_attempt (wpAny_holding (wpAny_bind (L0.at (wpAny_bind (L1.at ?_))))))))
  show wpAny _ _ (if (onTheHeap (Value.ref Dc) && Value.builtin "BaseException.__getattribute__" == Value.builtin "object.__getattribute__") = true then _ else _) _ _ _
  rw [hx1, if_neg Bool.false_ne_true]
  unfold getAttrByItsOwn hookBefore
  refine wpAny_bind ?_
  rw [if_pos (show onTheHeap (Value.ref Dc) = true from rfl)]
  refine L2.at ?_
  refine wpAny_bind (wpAny_attempt (wpAny_holding ?_))
  unfold callGetattribute
  rw [hx0, if_neg Bool.false_ne_true]
  unfold boundAndCalled
  rw [PySem.F.excAttr_ValueError.ga.bind (.ref x)]
  refine wpAny_bind (wpAny_pure ?_)
  show wpAny _ _ (call (.builtin "BaseException.__getattribute__") [.ref x, .str "__class__" t]) _ _ _
  refine wpAny_call (codeAny_call_builtin PySem.F.excAttr_ValueError.ga.plain PySem.F.entry_bexc_ga ?_)
  refine @check_slot (model prog w) _ _ ⟨hp, g, d, t + 1, os⟩ "BaseException.__getattribute__" "BaseException" "__getattribute__" (.ref x) [.str "__class__" t] [] _ (by decide +kernel) (by decide +kernel) sub (PySem.F.args_bexc_ga (.ref x) (.str "__class__" t)) ?_
  unfold Builtin.«object.__getattribute__»
  refine wpAny_bind (wpAny_of_eq (a := ((Value.ref x : Value), [Value.str "__class__" t])) (by first | rfl | (simp only [slotArgs]; rfl)) ?_)
  refine wpAny_bind (wpAny_pure (wpAny_bind (L0.at (wpAny_bind (L3.at ?_)))))
  show wpAny _ _ (holding [Value.builtin "object.__class__"] (call (.builtin "getset_descriptor.__get__") [.builtin "object.__class__", .ref x, .ref Dc]) >>= ret) _ _ _
  refine wpAny_bind (wpAny_holding (wpAny_call (class_get (s := ⟨hp, g, d, t + 1, os⟩) (ox := ox) (od := od) X I C.hm ?_)))
  refine wpAny_pure ?_
  show wpAny _ _ (handedOut (.ref Dc)) _ _ _
  rw [handedOut_of (v := .ref Dc) rfl]
  first
    | exact wpAny_pure (wpAny_pure h)
    | exact wpAny_pure h
    | exact wpAny_pure (wpAny_bind (wpAny_pure (wpAny_pure h)))
theorem kitx_exc2 (C : L2.ExcC K Dc) : KitX K (.ref x) (.ref Dc) (fun h => ∃ ox od, InstAt h x ox Dc od) where
  ty := fun _ _ _ ⟨_, _, I⟩ => I.type
  it := fun _ _ X _ => by
    obtain ⟨cdD, hcD, _⟩ := any_some C.hd
    unfold clsIn at hcD
    split at hcD
    · rename_i c' d' cd' sl' ho
      intro A' Q' E' s' k q
      unfold isType loadHead
      exact wpAny_bind (wpAny_loadPart (k _ _ (X _ _ ho)) (wpAny_pure q))
    · cases hcD
  ne := fun h tp dd its n sl X htp => by
    obtain ⟨cdD, hcD, _⟩ := any_some C.hd
    refine Bool.eq_false_iff.mpr fun q => ?_
    have e : Dc = tp := Value.ref.inj (beq_iff_eq.mp q)
    subst e
    unfold clsIn at hcD
    split at hcD
    · rename_i c' d' cd' sl' ho
      have z := (X _ _ ho).symm.trans htp
      cases z
    · cases hcD
  ca := fun X ⟨_, _, I⟩ k => exc_class C X I k
end
open PySem PySem.Spec PyProof.Rows L2
/-- what the data says of exceptions -/
def excG (cls : Str → Option Addr) : Hp → Addr → Str → V → Prop := fun H a c v => ∃ C dd, cls c = some C ∧ H a = some (ExAt (.ref C) (some dd) a) ∧ H dd = some (.xd [(("value" : Str), v)])
def mkG (K : PySem.W.Frag) (fn cls : Str → Option Addr) (cl : Addr → Nat → List V → Prop) : GI where
  K := K
  fn := fn
  cls := cls
  exc := excG cls
  clo := fun _ a n vs => cl a n vs
  excS := fun H H' a c v s ⟨C, dd, h1, h2, h3⟩ => ⟨C, dd, h1, s _ _ h2 (fun z => z), s _ _ h3 fun z => z⟩
  cloS := fun _ _ _ _ _ _ h => h
section
variable {X : Cx} {pins : List (Addr × Obj)} {σ : L2.St} {H : Hp} {s : Shared} {a C dd : Addr} {fs : List (Str × V)}
theorem exc_inst (I : L2.Inv X pins σ H s) (h2 : H a = some (ExAt (.ref C) (some dd) a)) (h3 : H dd = some (.xd fs)) : ∃ (ox od : Obj) (mA : Str → Option Value), PySem.W.InstAt s.heap a ox C (some od) ∧ (∀ f, RelO (fs.lookup f) (mA f)) ∧ ∀ n, PySem.W.lookIn n od = some (mA n) := by
  obtain ⟨oe, vs, e1, z, hd⟩ := exAt_at I.hok h2
  have hx : ObjOk X.prog X.w H s.heap dd (.xd fs) := I.hok dd _ h3
  obtain ⟨mA, hns, hr⟩ := hx
  obtain ⟨od, ho, hl⟩ := lookIn_ns hns
  exact ⟨oe, od, mA, ⟨e1, z.1, by unfold PySem.W.notCls; rw [hd] <;> rfl, by rw [z.2]; exact ho⟩, hr, hl⟩
/-- isinstance(e, C2), e a tracked exception or a plain value -/
def rIsX (K : PySem.W.Frag) (C2 : Addr) : List V → Hp → VK → Prop := fun xs H Q =>
  (∃ a C dd fs b, xs = [.ref a, .ref C2] ∧ H a = some (ExAt (.ref C) (some dd) a) ∧ H dd = some (.xd fs) ∧ ExcC K C ∧ PySem.W.kitOne K (.ref C) (.ref C2) = some b ∧ Q (.bl b) H) ∨ rIsi K xs H Q
theorem call_isX {C2 : Addr} : CallR X (.builtin "isinstance") (rIsX X.K C2) := by
  intro pins s σ H xs us Q I r h
  rcases h with ⟨a, C, dd, fs, b, rfl, h2, h3, hC, e, q⟩ | h
  · obtain ⟨u1, u2, rfl, r1, r2⟩ := vals2 r
    cases (show u1 = Value.ref a from r1)
    cases (show u2 = Value.ref C2 from r2)
    obtain ⟨ox, od, mA, J, _, _⟩ := exc_inst I h2 h3
    exact PySem.W.kia_one (kitx_exc2 hC) I.kIn ⟨ox, _, J⟩ e (fun z => nomatch z) fun tk => ⟨.bl b, H, I.kept (t' := tk) fun _ _ z => z, rfl, q⟩
  · exact call_isi pins s σ H xs us Q I r h
/-- e.f, e a tracked exception -/
def tXv (K : PySem.W.Frag) (n : Str) (te : TE) : TE := fun σ H Q => te σ H fun x H1 => ∃ a C dd fs v, x = .ref a ∧ H1 a = some (ExAt (.ref C) (some dd) a) ∧ H1 dd = some (.xd fs) ∧ XfC K C ∧ PySem.W.findIn K (.ref C) n = some none ∧ fs.lookup n = some v ∧ Q v H1
theorem pe_xv {e : Expr} {te : TE} {pos : Pos} {n : Str} (he : PE X e te) (hb : attributeBase e n X.env (eval e X.env) = eval e X.env := by rfl) : PE X (.Attribute e n pos) (tXv X.K n te) := by
  refine ⟨fun pins s σ H Q I h => ?_⟩
  refine attr_of hb (thn (he.run pins s σ H _ I h) fun u s1 hh => ?_)
  obtain ⟨x, H1, I1, rx, a, C, dd, fs, v, ex, h2, h3, T, hno, l, q⟩ := hh
  subst ex
  obtain rfl : u = Value.ref a := rx
  obtain ⟨ox, od, mA, J, hr, hl⟩ := exc_inst I1 h2 h3
  obtain ⟨u, hu, ru⟩ := RelO.some_of (v := v) (o := mA n) (by rw [← l]; exact hr n)
  exact HandSPX.exc_get I1.kIn J T.ga T.gg T.exC (PySem.W.findObj_own T.hdC hno rfl (by rw [hl, hu])) (handed_of ru) ⟨v, H1, I1.tok _, ru, q⟩
end
section
variable {K : PySem.W.Frag} {fn cls : Str → Option Addr} {cl : Addr → Nat → List V → Prop}
variable {B B' : Bs} {W : WX} {lk lk' L L' La Lb : List Nat} {Z Z' : Addr → Prop} {σ σ' : L2.St} {H H' : Hp} {Γ Γ' Γ1 Γ2 Γ3 : List Nat} {en en' : En} {fps fps' : Nat → List Addr} {κ κ' k : Nat} {κs : List Nat} {v : V} {d : D} {ro : RO}
variable {X : Cx} {pos : Pos} {m ma mb mc : EM} {e a b c : Expr}
theorem own_exc {Zx : Addr → Prop} {c : Str} {x : D} {fp : List Addr} (h : Own (mkG K fn cls cl) Zx H κ v (.exc c x) fp) : ∃ a C dd w, v = .ref a ∧ cls c = some C ∧ H a = some (ExAt (.ref C) (some dd) a) ∧ H dd = some (.xd [(("value" : Str), w)]) ∧ Own (mkG K fn cls cl) Zx H 0 w x [] := by
  cases h with
  | exc q o =>
    obtain ⟨C, dd, h1, h2, h3⟩ := q
    exact ⟨_, C, dd, _, rfl, h1, h2, h3, o⟩
def dIsX (n : Str) : D → Option D
  | .exc c _ => some (.bl (c == n))
  | .non => some (.bl false)
  | _ => none
/-- isinstance(e, C2) of an exception, or of None -/
theorem ei_isX {x2 : Str} {C2 : Addr} {md : Md} {p p2 : Pos} (hcl : ∀ c C, cls c = some C → ExcC X.K C ∧ PySem.W.kitOne X.K (.ref C) (.ref C2) = some (c == x2)) (hnn : PySem.W.kitOne X.K (.type "NoneType") (.ref C2) = some false) (hg : Gl X "isinstance") (hm : X.mg "isinstance" = none) (hv : bootBuiltins "isinstance" = some (.builtin "isinstance")) (hg2 : Gl X x2) (hm2 : X.mg x2 = some (.ref C2)) (ha : OI X (mkG K fn cls cl) W lk Γ a md Γ' m)
    (hd2 : (x2 == ("__debug__" : Str)) = false := by decide)
    (he : starEach (a :: [.Name x2 p2]) X.env = (false, eval a X.env) :: starEach [.Name x2 p2] X.env := by rfl) (he2 : starEach [.Name x2 p2] X.env = (false, eval (.Name x2 p2) X.env) :: starEach [] X.env := by rfl) (hpl : (backTo pos (starEach [.Name x2 p2] X.env)).any (·.1) = false := by rfl) :
    EI X (mkG K fn cls cl) W lk Γ (.Call (.Name "isinstance" p) [a, .Name x2 p2] [] pos) κ [] Γ' (m1 (dIsX x2) m) :=
  PE.imp (pe_callB (call_isX (C2 := C2)) hg hm hv (pa_cons ha (pa_cons (pe_glob (v := .ref C2) hg2 hm2 rfl hd2) pa_nil he2) he) (by decide) (by decide) he hpl) fun σ H Q ⟨B, Z, en, fps, C, o⟩ => ⟨B, Z, en, fps, C, out1 (md := md) (r := fun v H2 => rIsX X.K C2 [v, .ref C2] H2 Q) o fun d d' v Z2 H2 fps2 en2 ef C2' h2 o => by
    obtain ⟨_, _, _, ow⟩ := Md.any h2
    unfold dIsX at ef
    split at ef
    · cases ef
      obtain ⟨a, C, dd, w, rfl, h1, h3, h4, _⟩ := own_exc ow
      obtain ⟨q1, q2⟩ := hcl _ C h1
      exact .inl ⟨a, C, dd, _, _, rfl, h3, h4, q1, q2, o _ _ _ _ [] C2' (.sc .bl)⟩
    · cases ef
      have := own_non ow
      subst this
      exact .inr ⟨.non, .ref C2, .type "NoneType", .ref C2, false, rfl, .own C2, .base .non, hnn, o _ _ _ _ [] C2' (.sc .bl)⟩
    · cases ef⟩
def dVal : D → Option D
  | .exc _ x => some x
  | _ => none
theorem ei_val (hcl : ∀ c C, cls c = some C → XfC X.K C ∧ PySem.W.findIn X.K (.ref C) "value" = some none) (ha : EI X (mkG K fn cls cl) W lk Γ a 0 L Γ' m) (hb : attributeBase a "value" X.env (eval a X.env) = eval a X.env := by rfl) :
    EI X (mkG K fn cls cl) W lk Γ (.Attribute a "value" pos) 0 L Γ' (m1 dVal m) :=
  PE.imp (pe_xv ha hb) fun σ H Q ⟨B, Z, en, fps, C, o⟩ => ⟨B, Z, en, fps, C, (out1 (md := .e 0 L) o fun d d' v Z2 H2 fps2 en2 ef C2 ⟨fp, h2⟩ o => by
    unfold dVal at ef
    split at ef
    · cases ef
      obtain ⟨a, C, dd, w, rfl, h1, h3, h4, o4⟩ := own_exc h2.own
      obtain ⟨q1, q2⟩ := hcl _ C h1
      exact ⟨a, C, dd, _, w, rfl, h3, h4, q1, q2, by simp [List.lookup], o w _ _ _ [] C2 (held_frz o4)⟩
    · cases ef).toE⟩
/-! ### the statement -/
def bareE (Γ : List Nat) (en : En) : En := en.mapIdx fun i d => if Γ.getD i 0 = 0 then d else none
def bsE (H : Hp) (Z : Addr → Prop) : Bs := ⟨H, Z, fun _ => False, fun _ _ => False, []⟩
theorem Cfg.bare {G : GI} (C : Cfg G B lk Z σ H Γ en fps) : Cfg G (bsE H Z) [] Z σ H Γ (bareE Γ en) (fun _ => []) where
  bok := ⟨fun _ z => z.elim, fun _ _ z => z.elim, fun _ _ z => z.elim, C.zt, fun _ _ z => z.elim, fun _ _ _ z => z.elim⟩
  len := by unfold bareE; rw [List.length_mapIdx]; exact C.len
  rep := fun i d e => by
    unfold bareE at e
    rw [List.getElem?_mapIdx] at e
    cases q : en[i]? with
    | none => rw [q] at e; cases e
    | some y =>
      rw [q] at e
      simp only [Option.map_some, Option.some.injEq] at e
      split at e
      · rename_i hz
        subst e
        obtain ⟨v, h1, h2⟩ := C.rep i d q
        rw [hz] at h2
        have z := h2.z0
        rw [z] at h2
        exact ⟨v, h1, by rw [hz]; exact h2⟩
      · cases e
  emp := fun _ _ => rfl
  nd := fun _ => List.nodup_nil
  dis := fun _ _ _ h => nomatch h
  nz := fun _ _ h => nomatch h
  zt := C.zt
  keep := fun a o e _ => e
  newf := fun _ _ h => nomatch h
  lkd := fun _ _ _ h => nomatch h
  lks := fun _ _ h => h.elim
  zb := fun _ z => z
  zn := fun _ z => .inl z
  pin := fun _ h => nomatch h
/-- the heap has grown -/
theorem Cfg.ext {G : GI} (C : Cfg G B lk Z σ H Γ en fps) (k : ∀ a o, H a = some o → H' a = some o) : Cfg G B lk Z σ H' Γ en fps :=
  { C with
    rep := fun i d e => by
      obtain ⟨v, h1, h2⟩ := C.rep i d e
      exact ⟨v, h1, own_keep (fun a u q _ => k a u q) (fun a z => ⟨z, fun u q => k a u q⟩) h2 fun a _ u q => k a u q⟩
    zt := fun a z => by
      obtain ⟨o, q⟩ := C.zt a z
      exact ⟨o, k a o q⟩
    keep := fun a o e n => k a o (C.keep a o e n) }
theorem Cfg.reσ {G : GI} (C : Cfg G B lk Z σ H Γ en fps) (hl : σ'.length = σ.length) (h : ∀ (i : Nat) (d : D), en[i]? = some (some d) → σ'[i]? = σ[i]?) (hp : ∀ p ∈ B.pins, σ'[p.1]? = some (some p.2)) : Cfg G B lk Z σ' H Γ en fps :=
  { C with
    len := by rw [hl]; exact C.len
    rep := fun i d e => by
      obtain ⟨v, h1, h2⟩ := C.rep i d e
      exact ⟨v, by rw [h i d e]; exact h1, h2⟩
    pin := hp }
/-- try: e / except (all own errors) as n: y = n -/
def mTry (Γ : List Nat) (i j : Nat) (m : EM) : SM := fun en => match m (bareE Γ en) with
  | .ok _ _ => .nx en
  | .exc c x => .nx ((en.set i none).set j (some (.exc c x)))
  | .bad => .bad
theorem si_try {x n y : Str} {cb : Value} {i j : Nat} {e : Expr} {np pos' py pn2 sp ep : Pos} (hs : X.stack = X.env :: X.outer) (hf : X.env.frame = some X.env.locals) (hex : X.ex = []) (hN : X.N.Nodup) (hi : X.N[i]? = some n) (hln : X.env.kindOf n = some .local) (hj : X.N[j]? = some y) (hlj : X.env.kindOf y = some .local) (hc : Names X x cb) (tk : Takes X (fun _ _ _ _ => False))
    (hcl : ∀ c C, cls c = some C → PySem.W.exmOne X.K (.ref C) cb = some true) (hij : i ≠ j) (hil : i ∉ lk) (hjl : j ∉ lk) (hk : Γ.getD j 0 = 0) (hk2 : Γ.set j 0 = Γ) (hjΓ : j < Γ.length) (hio : ∀ l, l = i ∨ l = j → (ro.io.getD l none).isSome = false)
    (hb : ∀ (W : WX) (pn : List (Addr × Obj)) (xe : Value → Shared → Prop), Takes (X.tr pn xe) W → EI (X.tr pn xe) (mkG K fn cls cl) W [] Γ e κ L Γ m)
    (hdn : (n == ("__debug__" : Str)) = false := by decide) (hdc : (n == ("__classdict__" : Str)) = false := by decide)
    (hsw : ∀ env : Env, swapsWith (.Name n pn2) (some (.Name y py)) sp.line env = pure false := by intro _; rfl) (hse : ∀ env : Env, swapsWith e none ep.line env = pure false := by intro _; rfl) :
    SI X (mkG K fn cls cl) W lk ro Γ (.Try [.Expr e ep] [.ExceptHandler (some (.Name x np)) (some n) [.Assign [.Name y py] (.Name n pn2) sp] pos'] [] [] pos) Γ (mTry Γ i j m) :=
  PS.imp (ps_try_keep hs hf hex hN hi hln hj hlj hc tk hdn hdc hsw fun W pn xe tk _ => pss_one (ps_expr (hb W pn xe tk) (hse _))) fun D σ H ⟨B, Z, en, fps, P, C, o⟩ => by
    refine ⟨bsE H Z, Z, bareE Γ en, fun _ => [], C.bare, ?_⟩
    unfold mTry at o
    cases em : m (bareE Γ en) with
    | bad => rw [em] at o; exact o
    | ok d en' =>
      rw [em] at o
      intro v Z' H' fps' fp C' h'
      exact o σ Z H' fps (C.ext fun a q e => C'.keep a q e fun z => z)
    | exc c x =>
      rw [em] at o
      intro Cc dd H' y
      refine ⟨true, hcl c Cc y.cls, fun _ a ha => ?_, fun z => by cases z⟩
      obtain ⟨w, Z', e1, e2, zb, zn, zt⟩ := y.ex
      have k : ∀ a q, H a = some q → H' a = some q := fun a q e => y.keep a q e fun z => z
      have C1 := C.ext k
      have S1 : ∀ a, Z' a → Z a ∨ (Z' a ∧ H a = none) := fun a z => by
        rcases zn a z with q | q | ⟨_, q⟩ | q
        · exact .inl q
        · exact q.elim
        · exact q.elim
        · exact .inr ⟨z, q⟩
      have C2 := C1.addZ (S := fun a => Z' a ∧ H a = none) (fun a z => zt a z.1) (fun a z i m => by
        obtain ⟨u, q, _⟩ := C.chg m
        rw [z.2] at q; cases q) (fun a z => C.none_of z.2)
      have C3 := (C2.drop i hil).grow (o := ExAt (.ref Cc) (some dd) a) ha
      have hE : Own (mkG K fn cls cl) (fun a => Z a ∨ (Z' a ∧ H a = none)) (upd H' a (ExAt (.ref Cc) (some dd) a)) 0 (.ref a) (.exc c x) [] := by
        refine .exc ⟨Cc, dd, y.cls, upd_same, ?_⟩ (own_keep (fun b u q _ => upd_keep ha b u q) (fun b z => ⟨S1 b z, fun u q => upd_keep ha b u q⟩) e2 fun b m => nomatch m)
        exact upd_keep ha _ _ e1
      have C4 := C3.set (i := j) (κ := 0) (fp := []) (held_frz (hE.monoZ fun a z => Zl_nil.mpr z)) hjl hjΓ (pin_ne P (hio j (.inr rfl)))
      rw [hk2] at C4
      have C5 := C4.reσ (σ' := ((σ.set i (some (.ref a))).set j (some (.ref a))).set i none) (by simp) (fun l d e => by
        by_cases hl : l = i
        · subst hl
          exfalso
          rw [List.getElem?_set_ne (Ne.symm hij)] at e
          by_cases hb : l < en.length
          · rw [List.getElem?_set_self hb] at e; cases e
          · rw [List.getElem?_eq_none (by simpa using hb)] at e; cases e
        · rw [List.getElem?_set_ne (Ne.symm hl)]
          by_cases hlj : l = j
          · subst hlj
            by_cases hb : l < σ.length
            · rw [List.getElem?_set_self (by simpa using hb), List.getElem?_set_self hb]
            · rw [List.getElem?_eq_none (by simpa using hb), List.getElem?_eq_none (by simpa using hb)]
          · rw [List.getElem?_set_ne (Ne.symm hlj), List.getElem?_set_ne (Ne.symm hl), List.getElem?_set_ne (Ne.symm hlj)]) (fun p m => by
        have n1 := pin_ne P (hio i (.inl rfl)) p m
        have n2 := pin_ne P (hio j (.inr rfl)) p m
        rw [List.getElem?_set_ne (Ne.symm n1), List.getElem?_set_ne (Ne.symm n2), List.getElem?_set_ne (Ne.symm n1)]
        exact C.pin p m)
      exact o _ _ _ _ C5
end
end Im
/-! A written dict asked; a function held, called; the head. -/
namespace Im
open PySem PySem.Spec PyProof.Rows L2
section
variable {G : GI} {B B' : Bs} {W : WX} {lk lk' L L' La Lb : List Nat} {Z Z' : Addr → Prop} {σ σ' : St} {H H' : Hp} {Γ Γ' Γ0 Γ1 Γ2 Γ3 : List Nat} {en en' : En} {fps fps' : Nat → List Addr} {κ κ' k : Nat} {κs : List Nat} {v : V} {d : D} {ro : RO}
variable {X : Cx} {pos : Pos} {m ma mb mc : EM} {e a b c : Expr} {K : PySem.W.Frag}
/-! ### a dict of the module, texts its keys, asked -/
def dKd (tb : List (Str × D)) : D → Option D
  | .str z => tb.lookup z
  | _ => none
theorem ei_kd {x : Str} {p : Pos} {a : Addr} {tb : List (Str × D)} {md : Md} (hg : Gl X x) (hm : X.mg x = some (.ref a)) (ht : ∀ z d, tb.lookup z = some d → ∃ v, ScV v d ∧ KDct X.K X.w a z v) (hb : OI X G W lk Γ b md Γ' m) (hs : PlainIx b) (hd : (x == ("__debug__" : Str)) = false := by decide) :
    EI X G W lk Γ (.Subscript (.Name x p) b pos) κ [] Γ' (m1 (dKd tb) m) :=
  PE.imp (pe_ix ix_kdict (pe_glob (v := .ref a) hg hm rfl hd) hb hs) fun σ H Q ⟨B, Z, en, fps, C, o⟩ => ⟨B, Z, en, fps, C, out1 (md := md) o fun d d' v Z2 H2 fps2 en2 ef C2 h2 o => by
    unfold dKd at ef
    split at ef
    · rename_i z
      obtain ⟨_, _, _, ow⟩ := Md.any h2
      obtain ⟨w, sc, kd⟩ := ht z d' ef
      exact ⟨a, z, w, rfl, own_str ow, kd, o w _ _ _ [] C2 (.sc sc)⟩
    · cases ef⟩
/-! ### a function held, called -/
def mCallV (xs : List Str) (F : Str → List D → FRes) (p : List Nat) (mf : EM) (ms : AM) : EM := fun en => match mf en with
  | .ok (.fn x) en1 => if x ∈ xs then mCall (F x) p ms en1 else .bad
  | .ok _ _ => .bad
  | .exc c x => .exc c x
  | .bad => .bad
theorem ei_callv {f : Expr} (xs : List Str) {es : List Expr} {ms : AM} {mf : EM} {sl : List (Option Nat)} {sg : Sg} {F : Str → List D → FRes} {pm : List Nat} {nu : Nat} (hgd : X.A.guards = some []) (tk : Takes X W) (hf : EI X G W lk Γ f 0 [] Γ0 mf)
    (hF : ∀ x ∈ xs, ∀ fa, G.fn x = some fa → (PySem.W.keepIn X.K (.ref fa) = true ∧ ∃ fd ps k, FnG X.prog X.w X.K X.mg X.base (L2.CX X.prog X.w) k fa fd ps (spI G sg (F x)) ∧ Room k X.A ∧ KB X.K fd ps nu [] pm))
    (ha : CI X G W lk Γ0 (e :: es) κs sl La Γ1 ms) (hn : κs.length = nu := by rfl) (hp : ∀ i ∈ pm, i < κs.length := by decide) (nd : pm.Nodup := by decide) (hk : permL pm κs = sg.ks := by decide)
    (hev : eval (.Call f (e :: es) [] pos) X.env = (do PySem.callWith pos (← eval f X.env) [] (backTo pos (starEach (e :: es) X.env)) (backToKw pos (keywordEach [] X.env))) := by rfl) (he : starEach (e :: es) X.env = (false, eval e X.env) :: starEach es X.env := by rfl) (hpl : (backTo pos (starEach es X.env)).any (·.1) = false := by rfl) :
    EI X G W lk Γ (.Call f (e :: es) [] pos) sg.κ La Γ1 (mCallV xs F pm mf ms) := by
  refine ⟨fun pins s σ H Q I ⟨B, Z, en, fps, C, o⟩ => ?_⟩
  refine Call_ (thn (hf.run pins s σ H (fun v H1 => ∃ x fa Z1 en1 fps1, v = .ref fa ∧ (x ∈ xs ∧ G.fn x = some fa) ∧ Cfg G B lk Z1 σ H1 Γ0 en1 fps1 ∧ OutE G B W lk sg.κ La Γ1 σ Q (mCall (F x) pm ms en1)) I ?_) fun v s1 ⟨w, H1, I1, r1, x, fa, Z1, en1, fps1, ew, hx, C1, o1⟩ => ?_) hev
  · refine ⟨B, Z, en, fps, C, ?_⟩
    unfold mCallV at o
    cases em : mf en with
    | bad => rw [em] at o; exact o
    | exc c x => rw [em] at o; exact o
    | ok d en1 =>
      rw [em] at o
      cases d with
      | fn x =>
        intro v Z1 H1 fps1 fp C1 h1
        obtain ⟨fa, e1, e2⟩ : ∃ fa, v = .ref fa ∧ G.fn x = some fa := by
          have q := h1.own
          generalize hd : D.fn x = dx at q
          cases q with
          | fn e => cases hd; exact ⟨_, rfl, e⟩
          | _ => cases hd
        dsimp only at o
        split at o
        · rename_i hm
          exact ⟨x, fa, Z1, en1, fps1, e1, ⟨hm, e2⟩, C1, o⟩
        · exact o.elim
      | _ => exact o.elim
  · subst ew
    cases (show v = Value.ref fa from r1)
    obtain ⟨hkp, fd, ps, k, Fo, hr, hb⟩ := hF x hx.1 fa hx.2
    have cm : CallM G W lk Γ0 κs sl La Γ1 ms sg (F x) pm La Γ1 (mCall (F x) pm ms) := cm_n hp nd hk
    refine PySem.W.callWith_K (h₀ := X.base) I1.ok.mod.kin hkp (thn (ha.run pos pins s1 σ H1 _ I1 (cm σ H1 Q ⟨B, Z1, en1, fps1, C1, o1⟩)) fun us s2 ⟨vs, H2, I2, r, hl, q⟩ => ⟨I2.kIn, ?_⟩) he hpl
    exact run_kb (kn := []) (zs := []) (ws := []) (E := WE W) Fo hgd hr hb (passAt tk σ) I2 r .nil (by show us.length = nu; rw [← r.length, hl, hn]) rfl (by rw [List.append_nil]; exact q)
end
/-! ### the head -/
section
open PySem.W (KeysLit)
variable {P : Program} {w : World} {K : PySem.W.Frag} {mg mb : Str → Option Value} {k : Nat} {fa a : Addr} {fd : FuncData} {x : Str} {sp : Sp} {s₁ : Shared} {vs : List Value} {ns : List Int}
/-- the law's def called with the script at a, the abstract heap H given: nothing tracked but (perhaps) the script -/
theorem head_run {H : Hp} (KX : K.In s₁.heap) (hns : s₁.heap.Ns mainGlobals mg) (hb : s₁.heap.Ns builtinsNs mb) (hbb : ∀ x : Str, x ≠ "__name__" → mb x = bootBuiltins x) (hlim : s₁.heap.NoLimit) (hg : s₁.gens = #[])
    (ha : s₁.heap.get? a = some { cls := .type "list", data := .seq vs.toArray }) (hr : Room k callerA)
    (F : ∀ base : Heap, K.In base → base.Ns mainGlobals mg → FnG P w K mg base (L2.CX P w) k fa fd [x] sp) (hbind : ∀ (s : Shared) (u : Value), BindsTo s fd ⟨[u], []⟩ [(x, u)])
    (hsp : sp [.ref a] H (fun v _ => v = .bl true) fun _ _ _ => False) (hO : Only H) (hok : HOk P w H s₁.heap) (hA : ∀ b, H b ≠ none → b = a) (hK : H a ≠ none → K.lookup a = none) :
    codeAny (model P w) callerA (.call (.ref fa) ⟨[.ref a], []⟩) (fun r s' => r = .ok (.ret (.bool true)) ∧ OldK s₁.heap s'.heap ∧ s'.os = s₁.os ∧ AllBare s'.gens) s₁ := by
  have free : ∀ {b : Addr} {o : Obj} {es : Array DictEntry} {ep : Nat}, s₁.heap.get? b = some o → o.data = .dict es ep → H b = none := fun {b o es ep} e d => by
    cases q : H b with
    | none => rfl
    | some u =>
      obtain rfl := hA b (by rw [q]; simp)
      rw [ha] at e; cases e
      cases (show Data.seq vs.toArray _ = Data.dict es ep from d)
  have names : ∀ {b : Addr} {m : Str → Option Value}, s₁.heap.Ns b m → (hidT s₁.heap H).Ns b m := fun {b m} ⟨o, es, ep, e, d, r⟩ => ⟨o, es, ep, hidT_get e (free e d), d, r⟩
  have KB' : K.In (hidT s₁.heap H) := fun b o e => hidT_get (KX b o e) (by
    cases q : H b with
    | none => rfl
    | some u =>
      obtain rfl := hA b (by rw [q]; simp)
      rw [hK (by rw [q]; simp)] at e; cases e)
  have mod : Mod K mg (hidT s₁.heap H) := ⟨KB', names hns, ⟨mb, names hb, hbb⟩, let ⟨mc, h1, h2⟩ := hlim; ⟨mc, names h1, h2⟩⟩
  have e0 : Env0 P w K mg (hidT s₁.heap H) callerA [] s₁ H := ⟨rfl, mod, fun b o e => of_hidT e, Nat.le_of_eq (hidT_size _ _), trivial, fun b hb => absurd (show b ∈ ([] : List Addr) from hb) (by simp), hok, .of_eq hg⟩
  refine codeAny_mono ((F _ KB' (names hns)).run callerA [] s₁ H ⟨[.ref a], []⟩ [.ref a] [.ref a] _ _ rfl hr e0 (hbind s₁ (.ref a)) (.cons rfl .nil) hsp) fun r s' h => ?_
  cases r with
  | error e =>
    obtain ⟨_, _, _, _, _, _, _, _, _, _, _, _, z⟩ := (show L2.CX P w [] H s₁ (fun _ _ _ => False) e s' from h)
    exact z.elim
  | ok fl =>
    cases fl with
    | next => exact False.elim h
    | brk => exact False.elim h
    | cont => exact False.elim h
    | ret u =>
      obtain ⟨v, H', os, bare, un, hok', r', q⟩ := h
      obtain rfl : v = .bl true := q
      obtain rfl : u = Value.bool true := r'
      refine ⟨rfl, OldK.of_keep fun b o e => ?_, os, bare⟩
      cases q : H b with
      | none => exact un.keep b o e q (by simp [frs]) (by simp)
      | some u =>
        rcases hO b with z | ⟨ob, xs, z⟩
        · rw [q] at z; cases z
        · obtain ⟨e1, _⟩ := hok b _ z
          obtain ⟨e2, _⟩ := hok' b _ (un.frzs b ob _ z)
          rw [e] at e1; cases e1
          exact e2
theorem head_call (KX : K.In s₁.heap) (hns : s₁.heap.Ns mainGlobals mg) (hb : s₁.heap.Ns builtinsNs mb) (hbb : ∀ x : Str, x ≠ "__name__" → mb x = bootBuiltins x) (hlim : s₁.heap.NoLimit) (hg : s₁.gens = #[])
    (ha : s₁.heap.get? a = some { cls := .type "list", data := .seq vs.toArray }) (hi : IntsAre vs ns) (hl : ns.length ≤ sizeLine) (hr : Room k callerA)
    (F : ∀ base : Heap, K.In base → base.Ns mainGlobals mg → FnG P w K mg base (L2.CX P w) k fa fd [x] sp) (hbind : ∀ (s : Shared) (u : Value), BindsTo s fd ⟨[u], []⟩ [(x, u)])
    (hsp : ∀ H : Hp, ScrAt K H a ns → sp [.ref a] H (fun v _ => v = .bl true) fun _ _ _ => False) :
    codeAny (model P w) callerA (.call (.ref fa) ⟨[.ref a], []⟩) (fun r s' => r = .ok (.ret (.bool true)) ∧ OldK s₁.heap s'.heap ∧ s'.os = s₁.os ∧ AllBare s'.gens) s₁ := by
  have rv := vals_ints hi
  have hn := hi.length
  cases hk : K.lookup a with
  | some o =>
    have e := KX a o hk
    rw [ha] at e
    cases e
    refine head_run (H := fun _ => none) KX hns hb hbb hlim hg ha hr F hbind (hsp _ (.inr ⟨_, vs.toArray, _, hk, rfl, rfl, rfl, by rw [List.size_toArray, hn]; exact hl, by simpa using rv⟩)) (fun _ => .inl rfl) (fun b u z => ?_) (fun b z => absurd rfl z) fun z => absurd rfl z
    cases (show (none : Option HO) = some u from z)
  | none =>
    refine head_run (H := fun b => if b = a then some (.frz { cls := .type "list", data := .seq vs.toArray } (.lst (ns.map V.int))) else none) KX hns hb hbb hlim hg ha hr F hbind (hsp _ (.inl ⟨{ cls := .type "list", data := .seq vs.toArray }, if_pos rfl⟩)) (fun b => ?_) (fun b u z => ?_) (fun b z => ?_) fun _ => hk
    · by_cases hb : b = a
      · exact .inr ⟨_, _, if_pos hb⟩
      · exact .inl (if_neg hb)
    · by_cases hb : b = a
      · have q := (if_pos hb).symm.trans z
        cases q
        subst hb
        exact ⟨ha, by rw [List.length_map]; exact hl, vs, _, rv, ha⟩
      · cases (if_neg hb).symm.trans z
    · by_cases hb : b = a
      · exact hb
      · exact absurd (if_neg hb) z
theorem head_walk {l : PySem.W.OpenLaw} {n k : Nat} {q : Program} {loose : List Str} {XP : (Str → Option Value) → Heap → Prop} {YP : World → Heap → Prop} {d : DefRec} {K : Params → PySem.W.Frag} {F : World → List D → FRes} {x : Str}
    (hn : l.most = some n) (hn2 : n ≤ sizeLine) (hdf : d.params.defaults = []) (hr : Room k callerA)
    (hY : ∀ (w : World) (h : Heap), YP w h → (K w.params).In h)
    (hF : ∀ (w : World) (mg : Str → Option Value) (fa : Addr) (h : Heap), (K w.params).In h → h.Ns mainGlobals mg → mg d.name = some (.ref fa) →
      ∃ (fd : FuncData) (Gw : GI), Gw.K = K w.params ∧ (∀ (s : Shared) (u : Value), BindsTo s fd ⟨[u], []⟩ [(x, u)]) ∧
        ∀ base : Heap, (K w.params).In base → base.Ns mainGlobals mg → FnG l.prog w (K w.params) mg base (L2.CX l.prog w) k fa fd [x] (spI Gw ⟨[0], [], 0⟩ (F w)))
    (hlaw : ∀ (w : World) (ns : List Int), ns.length ≤ n → ∃ ios, F w [.scr ns] = .ok (.bl true) ios) :
    PySem.W.WalkO q loose XP YP l.row.toRowW d [] (fun f vs => PySem.call f vs) := by
  refine Att.attach_call hn hdf fun w s₀ s₁ mg mb fa o pm cd doc a vs ns G Y ho hd hcd hmg hobj hints hlen hg => ?_
  have KX := hY w _ Y
  obtain ⟨fd, Gw, hGK, hb, hFn⟩ := hF w mg fa _ KX G.T.g hmg
  refine head_call KX G.T.g G.T.b G.T.builtins G.T.nolimit hg hobj hints (Nat.le_trans hlen hn2) hr hFn hb fun H hS => ?_
  obtain ⟨ios, hl⟩ := hlaw w ns hlen
  refine ⟨rfl, fun _ => False, [.scr ns], fun _ => [], fun _ z => z.elim, ⟨fun j d e => ?_, rfl, fun _ _ => rfl, fun _ => List.nodup_nil, fun _ _ _ h => (nomatch h), fun _ _ h => (nomatch h)⟩, ?_⟩
  · cases j with
    | zero =>
      cases e
      exact ⟨_, rfl, .scr (by rw [hGK]; exact hS)⟩
    | succ j => cases e
  · rw [hl]
    intro v Z' H' fr f' x
    exact scv_bl x.own
end
end Im
/-! a, b = x, y; rules in short for printed derivations. -/
namespace Im
open PySem PySem.Spec PyProof.Rows L2
section
variable {G : GI} {B B' : Bs} {W : WX} {lk lk' L L' La Lb : List Nat} {Z Z' : Addr → Prop} {σ σ' : St} {H H' : Hp} {Γ Γ' Γ0 Γ1 Γ2 Γ3 : List Nat} {en en' : En} {fps fps' : Nat → List Addr} {κ κ' k : Nat} {κs : List Nat} {v : V} {d : D} {ro : RO}
variable {X : Cx} {pos : Pos} {m ma mb mc : EM} {e a b c : Expr} {K : PySem.W.Frag}
theorem Held.set_other {i : Nat} {fp fp1 : List Addr} {d1 : D} (h : Held G B [] Z H fps κ v d fp) (ap : ∀ a ∈ fp, a ∉ fp1) : Held G B [] Z H (fun j => if j = i then (if i < en.length then fp1 else []) else fps j) κ v d fp :=
  ⟨h.own.monoZ fun a z => .inl (Zl_nil.mp z), h.nd, h.nz, fun a m j q => by
    split at q
    · split at q
      · exact ap a m q
      · cases q
    · exact h.ds a m j q, h.nw⟩
def mPar (i j : Nat) (ms : AM) : SM := fun en => match ms en with
  | .ok [d1, d2] en' => .nx ((en'.set i (some d1)).set j (some d2))
  | .ok _ _ => .bad
  | .exc c x => .exc c x
  | .bad => .bad
theorem si_par {i j k1 k2 : Nat} {x y : Str} {ms : AM} {px py pt : Pos} {kt kt2 : Nat} {pt2 : Pos} (hc : X.calm = true) (hW : WFree W) (hN : X.N.Nodup) (hi : X.N[i]? = some x) (hj : X.N[j]? = some y) (hx : X.env.scope.names.lookup x = some .local) (hy : X.env.scope.names.lookup y = some .local) (ha : AI X G W lk Γ [a, b] [k1, k2] [] Γ1 ms)
    (hw : swappedStores [.Tuple [.Name x px, .Name y py] kt pt] (.Tuple [a, b] kt2 pt2) X.env = pure (some [x, y]) := by rfl)
    (hij : i ≠ j := by decide) (hil : i ∉ lk := by decide) (hjl : j ∉ lk := by decide) (hiΓ : i < Γ1.length := by decide) (hjΓ : j < Γ1.length := by decide) (hio : (ro.io.getD i none).isSome = false := by rfl) (hjo : (ro.io.getD j none).isSome = false := by rfl)
    (hs : swapsWithSole [.Tuple [.Name x px, .Name y py] kt pt] (.Tuple [a, b] kt2 pt2) pos.line X.env = pure false := by rfl) :
    SI X G W lk ro Γ (.Assign [.Tuple [.Name x px, .Name y py] kt pt] (.Tuple [a, b] kt2 pt2) pos) ((Γ1.set i k1).set j k2) (mPar i j ms) :=
  PS.imp (ps_par hc hN hi hj hij hx hy ha hw hs) fun D σ H ⟨B, Z, en, fps, P, C, o⟩ => by
    refine ⟨B, Z, en, fps, C, ?_⟩
    unfold mPar at o
    cases em : ms en with
    | bad => rw [em] at o; exact o
    | exc c x => rw [em] at o; exact fun Cc dd H' y => o Cc dd σ H' y
    | ok ds en' =>
      rw [em] at o
      intro vs Z' H' fps' fpl C' h'
      obtain ⟨ho, hn, hz, hd, hwn⟩ := h'
      cases ho with
      | @cons _ _ v1 d1 _ _ fp1 _ o1 ho =>
        cases ho with
        | @cons _ _ v2 d2 _ _ fp2 _ o2 ho =>
          cases ho
          rw [List.flatten_cons, List.flatten_cons, List.flatten_nil, List.append_nil] at hn hz hd hwn
          have n := List.nodup_append.mp hn
          have h1 : Held G B [] Z' H' fps' k1 v1 d1 fp1 := ⟨o1, n.1, fun a m => hz a (List.mem_append_left _ m), fun a m => hd a (List.mem_append_left _ m), fun a m => hwn a (List.mem_append_left _ m)⟩
          have h2 : Held G B [] Z' H' fps' k2 v2 d2 fp2 := ⟨o2, n.2.1, fun a m => hz a (List.mem_append_right _ m), fun a m => hd a (List.mem_append_right _ m), fun a m => hwn a (List.mem_append_right _ m)⟩
          have C1 := C'.set h1 hil hiΓ (pin_ne P hio)
          have h2' := h2.set_other (en := en') (i := i) (fp1 := fp1) (d1 := d1) fun a m m' => n.2.2 a m' a m rfl
          have C2 := C1.set h2' hjl (by rw [List.length_set]; exact hjΓ) (pin_ne P hjo)
          exact ⟨v1, v2, rfl, o _ _ _ _ C2⟩
def mPar3 (i j l : Nat) (ms : AM) : SM := fun en => match ms en with
  | .ok [d1, d2, d3] en' => .nx (((en'.set i (some d1)).set j (some d2)).set l (some d3))
  | .ok _ _ => .bad
  | .exc c x => .exc c x
  | .bad => .bad
theorem si_par3 {i j l k1 k2 k3 : Nat} {x y z : Str} {ms : AM} {px py pz pt : Pos} {kt kt2 : Nat} {pt2 : Pos} (hc : X.calm = true) (hW : WFree W) (hN : X.N.Nodup) (hi : X.N[i]? = some x) (hj : X.N[j]? = some y) (hl : X.N[l]? = some z) (hx : X.env.scope.names.lookup x = some .local) (hy : X.env.scope.names.lookup y = some .local) (hz : X.env.scope.names.lookup z = some .local) (ha : AI X G W lk Γ [a, b, c] [k1, k2, k3] [] Γ1 ms)
    (hw : swappedStores [.Tuple [.Name x px, .Name y py, .Name z pz] kt pt] (.Tuple [a, b, c] kt2 pt2) X.env = pure (some [x, y, z]) := by rfl)
    (hij : i ≠ j := by decide) (hil' : i ≠ l := by decide) (hjl' : j ≠ l := by decide) (hil : i ∉ lk := by decide) (hjl : j ∉ lk := by decide) (hll : l ∉ lk := by decide) (hiΓ : i < Γ1.length := by decide) (hjΓ : j < Γ1.length := by decide) (hlΓ : l < Γ1.length := by decide) (hio : (ro.io.getD i none).isSome = false := by rfl) (hjo : (ro.io.getD j none).isSome = false := by rfl) (hlo : (ro.io.getD l none).isSome = false := by rfl)
    (hs : swapsWithSole [.Tuple [.Name x px, .Name y py, .Name z pz] kt pt] (.Tuple [a, b, c] kt2 pt2) pos.line X.env = pure false := by rfl) :
    SI X G W lk ro Γ (.Assign [.Tuple [.Name x px, .Name y py, .Name z pz] kt pt] (.Tuple [a, b, c] kt2 pt2) pos) (((Γ1.set i k1).set j k2).set l k3) (mPar3 i j l ms) :=
  PS.imp (ps_par3 hc hN hi hj hl hij hil' hjl' hx hy hz ha hw hs) fun D σ H ⟨B, Z, en, fps, P, C, o⟩ => by
    refine ⟨B, Z, en, fps, C, ?_⟩
    unfold mPar3 at o
    cases em : ms en with
    | bad => rw [em] at o; exact o
    | exc c x => rw [em] at o; exact fun Cc dd H' y => o Cc dd σ H' y
    | ok ds en' =>
      rw [em] at o
      intro vs Z' H' fps' fpl C' h'
      obtain ⟨ho, hn, hz, hd, hwn⟩ := h'
      cases ho with
      | @cons _ _ v1 d1 _ _ fp1 _ o1 ho =>
        cases ho with
        | @cons _ _ v2 d2 _ _ fp2 _ o2 ho =>
          cases ho with
          | @cons _ _ v3 d3 _ _ fp3 _ o3 ho =>
            cases ho
            rw [List.flatten_cons, List.flatten_cons, List.flatten_cons, List.flatten_nil, List.append_nil] at hn hz hd hwn
            have n := List.nodup_append.mp hn
            have n2 := List.nodup_append.mp n.2.1
            have h1 : Held G B [] Z' H' fps' k1 v1 d1 fp1 := ⟨o1, n.1, fun a m => hz a (List.mem_append_left _ m), fun a m => hd a (List.mem_append_left _ m), fun a m => hwn a (List.mem_append_left _ m)⟩
            have h2 : Held G B [] Z' H' fps' k2 v2 d2 fp2 := ⟨o2, n2.1, fun a m => hz a (List.mem_append_right _ (List.mem_append_left _ m)), fun a m => hd a (List.mem_append_right _ (List.mem_append_left _ m)), fun a m => hwn a (List.mem_append_right _ (List.mem_append_left _ m))⟩
            have h3 : Held G B [] Z' H' fps' k3 v3 d3 fp3 := ⟨o3, n2.2.1, fun a m => hz a (List.mem_append_right _ (List.mem_append_right _ m)), fun a m => hd a (List.mem_append_right _ (List.mem_append_right _ m)), fun a m => hwn a (List.mem_append_right _ (List.mem_append_right _ m))⟩
            have C1 := C'.set h1 hil hiΓ (pin_ne P hio)
            have h2' := h2.set_other (en := en') (i := i) (fp1 := fp1) (d1 := d1) fun a m m' => n.2.2 a m' a (List.mem_append_left _ m) rfl
            have h3' := h3.set_other (en := en') (i := i) (fp1 := fp1) (d1 := d1) fun a m m' => n.2.2 a m' a (List.mem_append_right _ m) rfl
            have C2 := C1.set h2' hjl (by rw [List.length_set]; exact hjΓ) (pin_ne P hjo)
            have h3'' := h3'.set_other (en := en'.set i (some d1)) (i := j) (fp1 := fp2) (d1 := d1) fun a m m' => n2.2.2 a m' a m rfl
            have C3 := C2.set h3'' hll (by rw [List.length_set, List.length_set]; exact hlΓ) (pin_ne P hlo)
            exact ⟨v1, v2, v3, rfl, o _ _ _ _ C3⟩
/-- a constant of the module -/
theorem ei_gc {x : Str} {v : V} {d : D} (hg : Gl X x) (h : ∃ u, X.mg x = some u ∧ RelV v u) (sc : ScV v d) (hd : (x == ("__debug__" : Str)) = false := by decide) : EI X G W lk Γ (.Name x pos) κ [] Γ (mC d) := by
  obtain ⟨u, hm, r⟩ := h
  exact ei_glob hg hm r sc hd
/-! ### names, in short -/
theorem xS (i : Nat) {x : Str} (hN : X.N[i]? = some x := by rfl) (hv : Vis X.env.scope x := by first | exact Or.inl rfl | exact Or.inr (Or.inl rfl) | exact Or.inr (Or.inr rfl)) (hd : (x == ("__debug__" : Str)) = false := by decide) (hcd : (x == ("__classdict__" : Str)) = false := by decide) :
    EI X G W lk Γ (.Name x pos) κ [] Γ (mVarS i) := ei_varS hN hv hd hcd
theorem xV (i : Nat) {x : Str} (hN : X.N[i]? = some x := by rfl) (hv : Vis X.env.scope x := by first | exact Or.inl rfl | exact Or.inr (Or.inl rfl) | exact Or.inr (Or.inr rfl)) (hk : Γ.getD i 0 = 0 := by rfl) (hd : (x == ("__debug__" : Str)) = false := by decide) (hcd : (x == ("__classdict__" : Str)) = false := by decide) :
    EI X G W lk Γ (.Name x pos) 0 [] Γ (mVar i) := ei_var hN hv hk hd hcd
theorem xN (i : Nat) {x : Str} (hN : X.N[i]? = some x := by rfl) (hv : Vis X.env.scope x := by first | exact Or.inl rfl | exact Or.inr (Or.inl rfl) | exact Or.inr (Or.inr rfl)) (hk : Γ.getD i 0 ≤ 1 := by decide) (hd : (x == ("__debug__" : Str)) = false := by decide) (hcd : (x == ("__classdict__" : Str)) = false := by decide) :
    OI X G W lk Γ (.Name x pos) (.v [i]) Γ (mSee i) := oi_name hN hv hk hd hcd
theorem xM (i : Nat) {x : Str} (hN : X.N[i]? = some x := by rfl) (hv : Vis X.env.scope x := by first | exact Or.inl rfl | exact Or.inr (Or.inl rfl) | exact Or.inr (Or.inr rfl)) (hk : Γ.getD i 0 = κ := by rfl) (hi : i ∉ lk := by decide) (hd : (x == ("__debug__" : Str)) = false := by decide) (hcd : (x == ("__classdict__" : Str)) = false := by decide) :
    EI X G W lk Γ (.Name x pos) κ [] Γ (mMove i) := ei_move hN hv hk hi hd hcd
theorem xR (i : Nat) {x : Str} (hN : X.N[i]? = some x := by rfl) (hv : Vis X.env.scope x := by first | exact Or.inl rfl | exact Or.inr (Or.inl rfl) | exact Or.inr (Or.inr rfl)) (hk : Γ.getD i 0 = κ := by rfl) (hi : i ∉ lk := by decide) (hd : (x == ("__debug__" : Str)) = false := by decide) (hcd : (x == ("__classdict__" : Str)) = false := by decide) :
    C1I X G W lk Γ (.Name x pos) κ (some i) [] Γ (mMove i) := c1_io hN hv hk hi hd hcd
theorem oe (h : EI X G W lk Γ e 0 L Γ' m) : OI X G W lk Γ e (.e 0 L) Γ' m := oi_of h
theorem tgN (i : Nat) {x : Str} (hN : X.N.Nodup) (hi : X.N[i]? = some x := by rfl) (hx : Loc X.env.scope x := by first | exact Or.inl rfl | exact Or.inr rfl) (h1 : i ∉ lk := by decide) (h2 : i < Γ.length := by decide) (h3 : (ro.io.getD i none).isSome = false := by rfl)
    (hf : X.fn x = true ∨ X.env.scope.names.lookup x = some .local := by first | exact .inl rfl | exact .inr rfl) : TgI X G lk ro Γ (.Name x pos) κ (Γ.set i κ) [i] (gSet i) := tg_name hN hi hx h1 h2 h3 hf
theorem sSet (i : Nat) {x : Str} {pos' : Pos} (hN : X.N.Nodup) (hW : WFree W) (he : EI X G W lk Γ e κ [] Γ1 m) (hi : X.N[i]? = some x := by rfl) (hx : Loc X.env.scope x := by first | exact Or.inl rfl | exact Or.inr rfl) (h1 : i ∉ lk := by decide) (h2 : i < Γ1.length := by decide) (h3 : (ro.io.getD i none).isSome = false := by rfl)
    (hs : swapsWith e (some (.Name x pos')) pos.line X.env = pure false := by rfl) (hf : X.fn x = true ∨ X.env.scope.names.lookup x = some .local := by first | exact .inl rfl | exact .inr rfl) :
    SI X G W lk ro Γ (.Assign [.Name x pos'] e pos) (Γ1.set i κ) (mSet i m) := si_set hN hi hx he h1 h2 h3 hs hf hW
/-- texts and numbers added -/
def dAddX (d1 d2 : D) : Option D := match dAdd d1 d2 with
  | some d => some d
  | none => dCatS d1 d2
theorem lk_addX : Lk2 G (fun x y H Q => rI0 (fun i j => .int (i + j)) x y H Q ∨ (fun x y H Q => ∃ i j, x = V.str i ∧ y = V.str j ∧ i.length + j.length ≤ sizeLine ∧ Q (.str (i ++ j)) H) x y H Q) dAddX := by
  intro H v1 v2 d1 d2 d Q h1 h2 e q
  unfold dAddX at e
  cases e1 : dAdd d1 d2 with
  | some d' => rw [e1] at e; cases e; exact .inl (lk_add H v1 v2 d1 d2 _ Q h1 h2 e1 q)
  | none => rw [e1] at e; exact .inr (lk_catS H v1 v2 d1 d2 _ Q h1 h2 e q)
theorem op_addX : OpR X (binaryOp .Add) (fun x y H Q => rI0 (fun i j => .int (i + j)) x y H Q ∨ (fun x y H Q => ∃ i j, x = V.str i ∧ y = V.str j ∧ i.length + j.length ≤ sizeLine ∧ Q (.str (i ++ j)) H) x y H Q) := op_add.or op_add_str
def dMulX (d1 d2 : D) : Option D := match dMul d1 d2 with
  | some d => some d
  | none => dMulS d1 d2
theorem lk_mulX : Lk2 G (fun x y H Q => rI CMul (fun i j => .int (i * j)) x y H Q ∨ rMulS x y H Q) dMulX := by
  intro H v1 v2 d1 d2 d Q h1 h2 e q
  unfold dMulX at e
  cases e1 : dMul d1 d2 with
  | some d' => rw [e1] at e; cases e; exact .inl (lk_mul H v1 v2 d1 d2 _ Q h1 h2 e1 q)
  | none => rw [e1] at e; exact .inr (lk_mulS H v1 v2 d1 d2 _ Q h1 h2 e q)
theorem op_mulX : OpR X (binaryOp .Mult) (fun x y H Q => rI CMul (fun i j => .int (i * j)) x y H Q ∨ rMulS x y H Q) := op_mul.or op_mulS
theorem pe_negc {i : Int} {j : Nat} {p : Pos} : PE X (.UnaryOp .USub (.Constant (.int i) j p) pos) (L2.tC (.int (-i))) := ⟨fun _ _ _ H _ I h => UnaryOp_ (wpAny_Constant_int (neg_int ⟨.int (-i), H, (I.tok _).tok _, ⟨_, rfl⟩, h⟩))⟩
theorem ei_neg {i : Int} {j : Nat} {p : Pos} : EI X G W lk Γ (.UnaryOp .USub (.Constant (.int i) j p) pos) κ [] Γ (mC (.int (-i))) := PE.imp pe_negc fun σ H Q ⟨B, Z, en, fps, C, o⟩ => o _ _ _ _ _ C (.sc .int)
end
end Im
/-! list(text); a, b = a list. -/
namespace Im
open PySem PySem.Spec PyProof.Rows L2
section
variable {G : GI} {B B' : Bs} {W : WX} {lk lk' L L' La Lb : List Nat} {Z Z' : Addr → Prop} {σ σ' : St} {H H' : Hp} {Γ Γ' Γ0 Γ1 Γ2 Γ3 : List Nat} {en en' : En} {fps fps' : Nat → List Addr} {κ κ' k : Nat} {κs : List Nat} {v : V} {d : D} {ro : RO}
variable {X : Cx} {pos : Pos} {m ma mb mc : EM} {e a b c : Expr} {K : PySem.W.Frag}
theorem vals_chars : ∀ {cs : List Nat} {us : List Value}, us.length = cs.length → (∀ (j : Nat) (v : Value), us[j]? = some v → ∃ c u, cs[j]? = some c ∧ v = Value.str ⟨#[c]⟩ u) → Vals (cs.map fun c => V.str ⟨#[c]⟩) us
  | [], [], _, _ => .nil
  | c :: cs, u :: us, hl, h => by
    obtain ⟨c', t, e1, e2⟩ := h 0 u rfl
    cases e1
    exact .cons ⟨t, e2⟩ (vals_chars (by simpa using hl) fun j v e => h (j + 1) v e)
theorem call_listC (hc : X.calm = true) : CallR X (.type "list") (fun xs H Q => ∃ z, xs = [V.str z] ∧ z.length ≤ sizeLine ∧ ∀ l, H l = none → Q (.ref l) (upd H l (.lst (z.cps.toList.map fun c => V.str ⟨#[c]⟩)))) := by
  intro pins s σ H xs us Q I r h
  obtain ⟨z, rfl, hz, q⟩ := h
  obtain ⟨u, rfl, t, rfl⟩ := vals1 r
  refine call_list_str (I.ok.hd hc) z t (fun h' tk acc c' hk hS hacc => ?_) hz
  have hv : Vals (z.cps.toList.map fun c => V.str ⟨#[c]⟩) acc.toList := vals_chars (by rw [Array.length_toList, Array.length_toList]; exact hacc.1) fun j v e => by
    obtain ⟨c, u, e1, e2⟩ := hacc.2 j v (by rw [← Array.getElem?_toList]; exact e)
    exact ⟨c, u, by rw [Array.getElem?_toList]; exact e1, e2⟩
  exact ⟨.ref s.heap.objs.size, _, I.laid (t' := tk) hk (Nat.le_refl _) (show ObjOk X.prog X.w _ h' _ (.lst (z.cps.toList.map fun c => V.str ⟨#[c]⟩)) from ⟨by rw [List.length_map, Array.length_toList]; exact hz, acc.toList, c', hv, by rw [Array.toArray_toList]; exact hS⟩), rfl, q _ (I.hok.fresh (Nat.le_refl _))⟩
theorem ownL_chars : ∀ (cs : List Nat), OwnL G Z H 0 (cs.map fun c => V.str ⟨#[c]⟩) (cs.map fun c => D.str ⟨#[c]⟩) []
  | [] => .nil
  | c :: cs => OwnL.cons (fp := []) (fps := []) .str (ownL_chars cs)
def dListC : D → Option D
  | .str z => if z.length ≤ lim then some (.lst (chars z)) else none
  | _ => none
theorem ei_listC {p : Pos} (hc : X.calm = true) (hg : Gl X "list") (hm : X.mg "list" = none) (hv : bootBuiltins "list" = some (.type "list")) (ha : OI X G W lk Γ a (.e 0 L) Γ' m) (he : starEach (a :: []) X.env = (false, eval a X.env) :: starEach [] X.env := by rfl) :
    EI X G W lk Γ (.Call (.Name "list" p) [a] [] pos) 1 [] Γ' (m1 dListC m) :=
  PE.imp (pe_callTy (call_listC hc) hg hm hv (pa_cons ha pa_nil he) (by decide) (by decide) he rfl) fun σ H Q ⟨B, Z, en, fps, C, o⟩ => ⟨B, Z, en, fps, C, out1 (md := .e 0 L) o fun d d' v Z2 H2 fps2 en2 ef C2 ⟨fp, h2⟩ o => by
    unfold dListC at ef
    split at ef
    · split at ef
      · rename_i hz
        cases ef
        exact ⟨_, congrArg (fun x => [x]) (own_str h2.own), lim_ok hz, fun l hl => o _ _ _ _ _ (C2.grow hl) (fresh_lst C2 (ownL_chars _) hl)⟩
      · cases ef
    · cases ef⟩
def mgUnl (n : Nat) (gs : List D → En → Option En) : D → En → Option En := fun d en => match d with
  | .lst ds => if ds.length = n then gs ds en else none
  | _ => none
theorem tg_unl {es : List Expr} {k n : Nat} {ts : List Nat} {gs : List D → En → Option En} (hc : X.calm = true) (h : TgsI X G lk ro Γ es 0 Γ' ts gs)
    (hn : (assignEach es X.env).length = n := by rfl) (hst : (assignEach es X.env).findIdx? (·.1) = none := by rfl) : TgI X G lk ro Γ (.Tuple es k pos) 0 Γ' ts (mgUnl n gs) :=
  PG.imp (pg_unl hc h hn hst) fun v σ H Q ⟨B, Z, en, fps, d, fp, P, C, h, o⟩ => by
    unfold mgUnl at o
    split at o
    · rename_i ds
      split at o
      · rename_i hl
        obtain ⟨ho, hn, hz, hd, hw⟩ := h
        cases ho with
        | lst z e oL =>
          exact ⟨_, _, rfl, .inl (.of e), oL.len.trans hl, B, Z, en, fps, ds, [], P, C, ⟨oL, hn, hz, hd, hw⟩, o⟩
      · exact o.elim
    · exact o.elim
theorem ti_chain {op op' : CmpOp} {r r' : R2} {f f' : D → D → Option D} {mda mdb mdc : Md} (ho : OpR X (compareOp op) r) (ho' : OpR X (compareOp op') r') (lnk : Lk2 G r f) (lnk' : Lk2 G r' f') (ha : OI X G W lk Γ a mda Γ1 ma) (hb : OI X G W (mda.L ++ lk) Γ1 b mdb Γ2 mb) (hc : OI X G W lk Γ2 c mdc Γ2 mc)
    (hm : lastMarks [op, op'] [b, c] = false := by rfl) :
    TI X G W lk Γ (.Compare a [op, op'] [b, c] pos) Γ2 (mChain f f' ma mb mc) := PT.imp (pt_chain ho ho' ha hb hc hm) fun σ H Q ⟨B, Z, en, fps, C, o0⟩ => run2 C <| by
  have o := outE_bl (κ := 0) (L := []) o0
  unfold mChain at o
  cases e : mm2 ma mb en with
  | bad => rw [e] at o; exact o.elim
  | exc c x => rw [e] at o; exact o
  | ok d1 d2 en2 =>
    rw [e] at o
    dsimp only at o
    intro v1 v2 Z2 H2 fps2 C2 h1 h2
    split at o
    · rename_i hsc
      cases ef : f d1 d2 with
      | none => rw [ef] at o; exact o.elim
      | some d =>
        rw [ef] at o
        cases d with
        | bl k =>
          refine lnk H2 v1 v2 d1 d2 _ _ (Md.any h1) (Md.any h2) ef fun z sc => ?_
          cases sc
          refine ⟨k, rfl, ?_⟩
          cases k with
          | true =>
            rw [if_pos rfl]
            refine ⟨B, Z2, en2, fps2, C2, ?_⟩
            dsimp only at o
            cases ec : mc en2 with
            | bad => rw [ec] at o; exact o.elim
            | exc c x => rw [ec] at o; exact o
            | ok d3 en3 =>
              rw [ec] at o
              dsimp only at o
              intro v3 Z3 H3 fps3 C3 h3
              cases ef' : f' d2 d3 with
              | none => rw [ef'] at o; exact o.elim
              | some d =>
                rw [ef'] at o
                obtain ⟨_, _, _, o2⟩ := Md.any h2
                exact lnk' H3 v2 v3 d2 d3 d _ ⟨Z3, 0, [], (scD_scv o2 hsc).1.own⟩ (Md.any h3) ef' fun v s => o v Z3 H3 fps3 [] C3 (.sc s)
          | false =>
            rw [if_neg Bool.false_ne_true]
            exact o _ _ _ _ [] C2 (.sc .bl)
        | _ => exact o.elim
    · exact o.elim
end
end Im
/-! Lists under two names: tags. -/
namespace Im
open PySem PySem.Spec PyProof.Rows L2
section
variable {G : GI} {B B' : Bs} {W : WX} {lk lk' L L' La Lb : List Nat} {Z Z' : Addr → Prop} {σ σ' : St} {H H' : Hp} {Γ Γ' Γ0 Γ1 Γ2 Γ3 : List Nat} {en en' : En} {fps fps' : Nat → List Addr} {κ κ' k : Nat} {κs : List Nat} {v : V} {d : D} {ro : RO}
variable {X : Cx} {pos : Pos} {m ma mb mc : EM} {e a b c : Expr} {K : PySem.W.Frag}
theorem own_tl {Zx : Addr → Prop} {n : Nat} {ds : List D} {fp : List Addr} (h : Own G Zx H k v (.tl n ds) fp) : ∃ a, v = .ref a ∧ G.clo H a n [] ∧ Own G Zx H k (.ref a) (.lst ds) fp := by
  cases h with
  | tag c h => exact ⟨_, rfl, c, h⟩
def dAli : D → Option D
  | .tl n _ => some (.clo n [])
  | _ => none
/-- a tagged list by its tag alone -/
theorem ei_alias (h : EI X G W lk Γ e 0 L Γ' m) : EI X G W lk Γ e κ [] Γ' (m1 dAli m) := PE.imp h fun σ H Q ⟨B, Z, en, fps, C, o⟩ => ⟨B, Z, en, fps, C, (out1 (md := .e 0 L) (r := fun v H => Q v H) o fun d d' v Z2 H2 fps2 en2 ef C2 ⟨fp, h2⟩ o => by
  unfold dAli at ef
  split at ef
  · cases ef
    obtain ⟨a, rfl, hc, _⟩ := own_tl h2.own
    exact o _ _ _ _ [] C2 ⟨.clo hc .nil, List.nodup_nil, (fun _ h => nomatch h), (fun _ h => nomatch h), (fun _ h => nomatch h)⟩
  · cases ef).toE⟩
def dUnt : D → Option D
  | .tl _ ds => some (.lst ds)
  | d => some d
/-- the tag left off -/
theorem ei_untag (h : EI X G W lk Γ e 0 L Γ' m) : EI X G W lk Γ e 0 L Γ' (m1 dUnt m) := PE.imp h fun σ H Q ⟨B, Z, en, fps, C, o⟩ => ⟨B, Z, en, fps, C, (out1 (md := .e 0 L) (r := fun v H => Q v H) o fun d d' v Z2 H2 fps2 en2 ef C2 ⟨fp, h2⟩ o => by
  unfold dUnt at ef
  split at ef
  · cases ef
    obtain ⟨a, rfl, hc, h3⟩ := own_tl h2.own
    exact o _ _ _ _ fp C2 ⟨h3, h2.nd, h2.nz, h2.ds, h2.nw⟩
  · cases ef
    exact o _ _ _ _ fp C2 h2).toE⟩
def flatD : D → Bool
  | .non | .bl _ | .int _ | .str _ => true
  | .clo _ [] => true
  | _ => false
theorem own_flat {Z' : Addr → Prop} {fp : List Addr} (h : Own G Z H k v d fp) (f : flatD d = true) : Own G Z' H 0 v d [] := by
  cases h <;> first
    | exact .non
    | exact .bl
    | exact .int
    | exact .str
    | (simp [flatD] at f; done)
    | skip
  rename_i n vs ds hc hl
  cases ds with
  | nil => cases hl; exact .clo hc .nil
  | cons d ds => simp [flatD] at f
theorem ownL_flat {Z' : Addr → Prop} : ∀ {vs : List V} {ds : List D} {fp : List Addr}, OwnL G Z H k vs ds fp → ds.all flatD = true → OwnL G Z' H 0 vs ds [] := by
  intro vs
  induction vs with
  | nil => intro ds fp h f; cases h; exact .nil
  | cons v vs ih =>
    intro ds fp h f
    cases h with
    | cons h1 h2 =>
      rw [List.all_cons, Bool.and_eq_true] at f
      exact OwnL.cons (fp := []) (fps := []) (own_flat h1 f.1) (ih h2 f.2)
def mFlat (m : EM) : EM := fun en => match m en with
  | .ok (.lst ds) en' => if ds.all flatD then .ok (.lst ds) en' else .bad
  | .ok _ _ => .bad
  | .exc c x => .exc c x
  | .bad => .bad
/-- a list that holds nothing lent -/
theorem ei_flat (h : EI X G W lk Γ e 1 L Γ' m) : EI X G W lk Γ e 1 [] Γ' (mFlat m) := PE.imp h fun σ H Q ⟨B, Z, en, fps, C, o⟩ => by
  refine ⟨B, Z, en, fps, C, ?_⟩
  unfold mFlat at o
  cases em : m en with
  | bad => rw [em] at o; exact o
  | exc c x => rw [em] at o; exact o
  | ok d en' =>
    rw [em] at o
    cases d with
    | lst ds =>
      dsimp only at o
      split at o
      · rename_i hf
        intro v Z' H' fps' fp C' h'
        obtain ⟨a, vs, fp', rfl, e2, hl, e3⟩ := own_lstS h'.own
        obtain rfl := hl.z0
        exact o _ _ _ _ fp C' ⟨by rw [e3]; exact .own e2 (ownL_flat hl hf), h'.nd, h'.nz, h'.ds, h'.nw⟩
      · exact o.elim
    | _ => exact o.elim
/-- a built-in function of a name, whatever it owns -/
theorem ei_b1N {i : Nat} {x y : Str} {p px : Pos} {id : String} {r : List V → Hp → VK → Prop} {f : D → Option D} (hN : X.N[i]? = some y) (hvis : Vis X.env.scope y) (hc : CallR X (.builtin id) r) (lnk : Lk1 G r f) (hg : Gl X x) (hm : X.mg x = none) (hv : bootBuiltins x = some (.builtin id)) (hn : x ≠ "__name__" := by decide) (hdb : (x == ("__debug__" : Str)) = false := by decide)
    (hd : (y == ("__debug__" : Str)) = false := by decide) (hcd : (y == ("__classdict__" : Str)) = false := by decide)
    (he : starEach (.Name y px :: []) X.env = (false, eval (.Name y px) X.env) :: starEach [] X.env := by rfl) : EI X G W lk Γ (.Call (.Name x p) [.Name y px] [] pos) κ [] Γ (m1 f (mVar i)) :=
  PE.imp (pe_callB hc hg hm hv (pa_cons (pe_var hN hvis hd hcd) pa_nil he) hn hdb he rfl) fun σ H Q ⟨B, Z, en, fps, C, o⟩ => by
    unfold m1 mVar at o
    cases ei : en[i]? with
    | none => rw [ei] at o; exact o.elim
    | some od =>
      rw [ei] at o
      cases od with
      | none => exact o.elim
      | some d =>
        dsimp only at o
        cases ef : f d with
        | none => rw [ef] at o; exact o.elim
        | some d' =>
          rw [ef] at o
          obtain ⟨v, h1, h2⟩ := C.rep i d ei
          exact ⟨v, h1, lnk H v d d' Q ⟨_, _, _, h2⟩ ef fun v' s => o v' Z H fps [] C (.sc s)⟩
/-! ### a tagged tree, edited at a tag -/
mutual
def edAt (n : Nat) (f : List D → List D) : D → D
  | .tl m ds => .tl m (if m = n then f (edL n f ds) else edL n f ds)
  | .tup ds => .tup (edL n f ds)
  | .non => .non
  | .bl b => .bl b
  | .int i => .int i
  | .str x => .str x
  | .lst ds => .lst ds
  | .edict => .edict
  | .fn x => .fn x
  | .exc c v => .exc c v
  | .scr ns => .scr ns
  | .clo n xs => .clo n xs
def edL (n : Nat) (f : List D → List D) : List D → List D
  | [] => []
  | d :: ds => edAt n f d :: edL n f ds
end
mutual
def fnd (n : Nat) : D → Option (List D)
  | .tl m ds => if m = n then some ds else fndL n ds
  | .tup ds => fndL n ds
  | _ => none
def fndL (n : Nat) : List D → Option (List D)
  | [] => none
  | d :: ds => match fnd n d with
    | some r => some r
    | none => fndL n ds
end
mutual
/-- every list bears a tag -/
def allT : D → Bool
  | .tl _ ds => allTL ds
  | .tup ds => allTL ds
  | .non | .bl _ | .int _ | .str _ => true
  | _ => false
def allTL : List D → Bool
  | [] => true
  | d :: ds => allT d && allTL ds
end
mutual
def ldep : D → Nat
  | .tl _ ds | .lst ds => ldepL ds + 1
  | .tup ds => ldepL ds
  | _ => 0
def ldepL : List D → Nat
  | [] => 0
  | d :: ds => max (ldep d) (ldepL ds)
end
mutual
/-- what is edited at the tag is as p says -/
def allN (n : Nat) (f : List D → List D) (p : List D → Bool) : D → Bool
  | .tl m ds => (decide (m ≠ n) || p (edL n f ds)) && allNL n f p ds
  | .tup ds => allNL n f p ds
  | _ => true
def allNL (n : Nat) (f : List D → List D) (p : List D → Bool) : List D → Bool
  | [] => true
  | d :: ds => allN n f p d && allNL n f p ds
end
/-- tags and addresses, one for one -/
structure TagOk (G : GI) : Prop where
  one : ∀ H a b n, G.clo H a n [] → G.clo H b n [] → a = b
  tag : ∀ H a m n, G.clo H a m [] → G.clo H a n [] → m = n
mutual
theorem own_fnd {n : Nat} {ds0 : List D} : ∀ (d : D) {k : Nat} {v : V} {fp : List Addr}, Own G Z H k v d fp → ldep d ≤ k → fnd n d = some ds0 → ∃ a vs k' fp', G.clo H a n [] ∧ a ∈ fp ∧ H a = some (.lst vs) ∧ OwnL G Z H k' vs ds0 fp'
  | .tl m ds, k, v, fp, h, hk, e => by
    obtain ⟨a, rfl, hc, h⟩ := own_tl h
    simp only [ldep] at hk
    cases h with
    | lst z e2 hl => omega
    | own e2 hl =>
      simp only [fnd] at e
      split at e
      · rename_i hm
        subst hm
        cases e
        exact ⟨a, _, _, _, hc, List.mem_cons_self, e2, hl⟩
      · obtain ⟨b, ws, k', fp', c1, c2, c3, c4⟩ := ownL_fnd ds hl (by omega) e
        exact ⟨b, ws, k', fp', c1, List.mem_cons_of_mem _ c2, c3, c4⟩
  | .tup ds, k, v, fp, h, hk, e => by
    cases h with
    | tup e2 hl => exact ownL_fnd ds hl (by simpa only [ldep] using hk) (by simpa only [fnd] using e)
  | .non, _, _, _, _, _, e => by simp [fnd] at e
  | .bl _, _, _, _, _, _, e => by simp [fnd] at e
  | .int _, _, _, _, _, _, e => by simp [fnd] at e
  | .str _, _, _, _, _, _, e => by simp [fnd] at e
  | .lst _, _, _, _, _, _, e => by simp [fnd] at e
  | .edict, _, _, _, _, _, e => by simp [fnd] at e
  | .fn _, _, _, _, _, _, e => by simp [fnd] at e
  | .exc _ _, _, _, _, _, _, e => by simp [fnd] at e
  | .scr _, _, _, _, _, _, e => by simp [fnd] at e
  | .clo _ _, _, _, _, _, _, e => by simp [fnd] at e
theorem ownL_fnd {n : Nat} {ds0 : List D} : ∀ (ds : List D) {k : Nat} {vs : List V} {fp : List Addr}, OwnL G Z H k vs ds fp → ldepL ds ≤ k → fndL n ds = some ds0 → ∃ a vs k' fp', G.clo H a n [] ∧ a ∈ fp ∧ H a = some (.lst vs) ∧ OwnL G Z H k' vs ds0 fp'
  | [], _, _, _, _, _, e => by simp [fndL] at e
  | d :: ds, k, vs, fp, h, hk, e => by
    simp only [ldepL] at hk
    cases h with
    | cons h1 h2 =>
      simp only [fndL] at e
      cases q : fnd n d with
      | some r =>
        rw [q] at e
        cases e
        obtain ⟨b, ws, k', fp', c1, c2, c3, c4⟩ := own_fnd d h1 (by omega) q
        exact ⟨b, ws, k', fp', c1, List.mem_append_left _ c2, c3, c4⟩
      | none =>
        rw [q] at e
        obtain ⟨b, ws, k', fp', c1, c2, c3, c4⟩ := ownL_fnd ds h2 (by omega) e
        exact ⟨b, ws, k', fp', c1, List.mem_append_right _ c2, c3, c4⟩
end
mutual
theorem own_ed {n : Nat} {f : List D → List D} {p : List D → Bool} {a : Addr} {vs : List V} {fV : List V → List V} (TO : TagOk G) (hc : G.clo H a n []) (ha : H a = some (.lst vs)) (az : ¬ Z a) (hI : StayI H (upd H a (.lst (fV vs))))
    (hF : ∀ k ds fp, p ds = true → OwnL G Z (upd H a (.lst (fV vs))) k vs ds fp → OwnL G Z (upd H a (.lst (fV vs))) k (fV vs) (f ds) fp) :
    ∀ (d : D) {k : Nat} {v : V} {fp : List Addr}, Own G Z H k v d fp → allT d = true → allN n f p d = true → Own G Z (upd H a (.lst (fV vs))) k v (edAt n f d) fp
  | .tl m ds, k, v, fp, h, ht, hn => by
    obtain ⟨b, rfl, hb, h⟩ := own_tl h
    simp only [allT] at ht
    simp only [allN, Bool.and_eq_true, Bool.or_eq_true, decide_eq_true_eq] at hn
    simp only [edAt]
    refine .tag (G.cloS _ _ _ _ _ hI hb) ?_
    cases h with
    | lst z e2 hl =>
      have nb : b ≠ a := fun q => az (q ▸ z)
      have nm : m ≠ n := fun q => nb (TO.one _ _ _ _ (q ▸ hb) hc)
      rw [if_neg nm]
      exact .lst z (by rw [upd_ne nb]; exact e2) (ownL_ed TO hc ha az hI hF ds hl ht hn.2)
    | own e2 hl =>
      have hl' := ownL_ed TO hc ha az hI hF ds hl ht hn.2
      by_cases nm : m = n
      · subst nm
        obtain rfl := TO.one _ _ _ _ hb hc
        rw [ha] at e2; cases e2
        rw [if_pos rfl]
        exact .own upd_same (hF _ _ _ (hn.1.resolve_left fun q => q rfl) hl')
      · have nb : b ≠ a := fun q => nm (TO.tag _ _ _ _ (q ▸ hb) hc)
        rw [if_neg nm]
        exact .own (by rw [upd_ne nb]; exact e2) hl'
  | .tup ds, k, v, fp, h, ht, hn => by
    cases h with
    | tup e2 hl =>
      simp only [edAt]
      exact .tup (hI _ _ e2 fun z => z) (ownL_ed TO hc ha az hI hF ds hl (by simpa only [allT] using ht) (by simpa only [allN] using hn))
  | .non, _, _, _, h, _, _ => by cases h; exact .non
  | .bl _, _, _, _, h, _, _ => by cases h; exact .bl
  | .int _, _, _, _, h, _, _ => by cases h; exact .int
  | .str _, _, _, _, h, _, _ => by cases h; exact .str
  | .lst _, _, _, _, _, ht, _ => by simp [allT] at ht
  | .edict, _, _, _, _, ht, _ => by simp [allT] at ht
  | .fn _, _, _, _, _, ht, _ => by simp [allT] at ht
  | .exc _ _, _, _, _, _, ht, _ => by simp [allT] at ht
  | .scr _, _, _, _, _, ht, _ => by simp [allT] at ht
  | .clo _ _, _, _, _, _, ht, _ => by simp [allT] at ht
theorem ownL_ed {n : Nat} {f : List D → List D} {p : List D → Bool} {a : Addr} {vs : List V} {fV : List V → List V} (TO : TagOk G) (hc : G.clo H a n []) (ha : H a = some (.lst vs)) (az : ¬ Z a) (hI : StayI H (upd H a (.lst (fV vs))))
    (hF : ∀ k ds fp, p ds = true → OwnL G Z (upd H a (.lst (fV vs))) k vs ds fp → OwnL G Z (upd H a (.lst (fV vs))) k (fV vs) (f ds) fp) :
    ∀ (ds : List D) {k : Nat} {ws : List V} {fp : List Addr}, OwnL G Z H k ws ds fp → allTL ds = true → allNL n f p ds = true → OwnL G Z (upd H a (.lst (fV vs))) k ws (edL n f ds) fp
  | [], _, _, _, h, _, _ => by cases h; exact .nil
  | d :: ds, k, ws, fp, h, ht, hn => by
    simp only [allTL, Bool.and_eq_true] at ht
    simp only [allNL, Bool.and_eq_true] at hn
    cases h with
    | cons h1 h2 => exact .cons (own_ed TO hc ha az hI hF d h1 ht.1 hn.1) (ownL_ed TO hc ha az hI hF ds h2 ht.2 hn.2)
end
/-- an object of a slot's tree, changed -/
theorem Cfg.mutD {t : Nat} {a : Addr} {o0 o : HO} {d d' : D} {v : V} (C : Cfg G B lk Z σ H Γ en fps) (et : en[t]? = some (some d)) (es : σ[t]? = some (some v)) (ha : a ∈ fps t) (h0 : H a = some o0) (c0 : Chg o0) (ht : t ∉ lk) (hO : Own G Z (upd H a o) (Γ.getD t 0) v d' (fps t)) :
    Cfg G B lk Z σ (upd H a o) Γ (en.set t (some d')) fps := by
  have htl : t < en.length := (List.getElem?_eq_some_iff.mp et).1
  have az : ¬ Z a := C.nz t a ha
  have keepI : StayI H (upd H a o) := fun b o' q n => upd_at q fun z => by subst z; rw [h0] at q; cases q; exact n c0
  have keepZ : ∀ b, Z b → Z b ∧ ∀ o', H b = some o' → upd H a o b = some o' := fun b z => ⟨z, fun o' q => upd_at q fun (y : b = a) => az (y ▸ z)⟩
  have an : B.F a ∨ B.H a = none := by
    rcases C.newf t a ha with y | y | y
    · exact .inl y
    · exact absurd (C.bok.lki t a y) ht
    · exact .inr y
  exact {
    bok := C.bok
    len := by rw [List.length_set]; exact C.len
    rep := fun j e' q => by
      by_cases hj : j = t
      · subst hj
        rw [List.getElem?_set_self htl] at q
        cases q
        exact ⟨v, es, hO⟩
      · rw [List.getElem?_set_ne (Ne.symm hj)] at q
        obtain ⟨w, h1, h2⟩ := C.rep j e' q
        exact ⟨w, h1, own_keep keepI keepZ h2 fun b m o' q => upd_at q fun (y : b = a) => hj (C.dis j t a (y ▸ m) ha)⟩
    emp := fun j q => by
      by_cases hj : j = t
      · subst hj
        exact absurd (List.getElem?_set_self htl) (q d')
      · exact C.emp j fun d q' => q d (by rw [List.getElem?_set_ne (Ne.symm hj)]; exact q')
    nd := C.nd
    dis := C.dis
    nz := C.nz
    zt := fun b z => by
      obtain ⟨o', q⟩ := C.zt b z
      exact ⟨o', upd_at q fun (y : b = a) => az (y ▸ z)⟩
    keep := fun b o' q n => upd_at (C.keep b o' q n) fun (y : b = a) => by
      subst y
      rcases an with y | y
      · exact n y
      · rw [q] at y; cases y
    newf := C.newf
    lkd := C.lkd
    lks := C.lks
    zb := C.zb
    zn := C.zn
    pin := C.pin }
def mTApp (i t k : Nat) (x : D) : EM := fun en => match en[i]? with
  | some (some (.clo n [])) => match en[t]? with
    | some (some d) => match fnd n d with
      | some ds => if allT d && decide (ldep d ≤ k) && decide (ds.length < lim) then .ok .non (en.set t (some (edAt n (· ++ [x]) d))) else .bad
      | none => .bad
    | _ => .bad
  | _ => .bad
theorem allN_true (n : Nat) (f : List D → List D) : ∀ d, allN n f (fun _ => true) d = true := by
  intro d
  suffices h : (∀ d, allN n f (fun _ => true) d = true) from h d
  have key : ∀ (d : D), allN n f (fun _ => true) d = true := fun d => by
    refine D.rec (motive_1 := fun d => allN n f (fun _ => true) d = true) (motive_2 := fun ds => allNL n f (fun _ => true) ds = true) ?_ ?_ ?_ ?_ ?_ ?_ ?_ ?_ ?_ ?_ ?_ ?_ ?_ ?_ d
    all_goals intros
    all_goals simp_all [allN, allNL]
  exact key
theorem own_clo0 {n : Nat} {fp : List Addr} (h : Own G Z H k v (.clo n []) fp) : ∃ a, v = .ref a ∧ G.clo H a n [] := by
  cases h with
  | clo hc hl => cases hl; exact ⟨_, rfl, hc⟩
/-- a text appended to a list known by its tag -/
theorem ei_tapp {i t j : Nat} {x z : Str} {p apos cp : Pos} (TO : TagOk G) (hN : X.N[i]? = some x) (hv : Vis X.env.scope x) (hk : Γ.getD t 0 = k) (ht : t ∉ lk := by decide) (hd : (x == ("__debug__" : Str)) = false := by decide) (hcd : (x == ("__classdict__" : Str)) = false := by decide)
    (hbase : attributeBase (.Name x p) "append" X.env (eval (.Name x p) X.env) = eval (.Name x p) X.env := by rfl)
    (hfew : ((backTo pos (starEach (.Constant (.str z) j cp :: []) X.env)).all (fun x => !x.1) && (backToKw pos (keywordEach [] X.env)).all (fun x => x.1.isSome)
      && decide ((Expr.Constant (.str z) j cp :: ([] : List Expr)).length + ([] : List Keyword).length + (if ([] : List Keyword).isEmpty then 0 else 1) < 30)) = true := by rfl)
    (hline : (apos.endLine == pos.line) = true := by rfl) (hs : starEach (.Constant (.str z) j cp :: []) X.env = (false, eval (.Constant (.str z) j cp) X.env) :: starEach [] X.env := by rfl) :
    EI X G W lk Γ (.Call (.Attribute (.Name x p) "append" apos) [.Constant (.str z) j cp] [] pos) κ' [] Γ (mTApp i t k (.str z)) :=
  PE.imp (pe_bm PySem.F.plainAttrs_list PySem.F.slot_list_append PySem.F.type_list_append mt_append (pe_var hN hv hd hcd) (pa_cons pe_str pa_nil hs) hbase hfew hline hs rfl) fun σ H Q ⟨B, Z, en, fps, C, o⟩ => by
    unfold mTApp at o
    split at o
    · rename_i n ei
      split at o
      · rename_i d et
        split at o
        · rename_i ds ef
          split at o
          · rename_i hc
            simp only [Bool.and_eq_true, decide_eq_true_eq] at hc
            obtain ⟨v, s1, s2⟩ := C.rep i _ ei
            obtain ⟨a, rfl, hcl⟩ := own_clo0 s2
            obtain ⟨w, t1, t2⟩ := C.rep t _ et
            rw [hk] at t2
            obtain ⟨a', vs, k', fp', c1, c2, c3, c4⟩ := own_fnd d t2 hc.1.2 ef
            obtain rfl := TO.one _ _ _ _ hcl c1
            have hI : StayI H (upd H a (.lst ((· ++ [V.str z]) vs))) := fun b o' q n => upd_at q fun z => by subst z; rw [c3] at q; cases q; exact n trivial
            have ed := own_ed (f := (· ++ [D.str z])) (p := fun _ => true) (fV := (· ++ [V.str z])) TO hcl c3 (C.nz t a c2) hI (fun k ds fp _ h => by
              have q := h.append (OwnL.cons (G := G) (Z := Z) (fp := []) (fps := []) (.str (x := z)) .nil)
              simpa using q) d t2 hc.1.1 (allN_true _ _ d)
            rw [← hk] at ed
            have C2 := C.mutD (t := t) (a := a) et t1 c2 c3 trivial ht ed
            exact ⟨.ref a, s1, .inl ⟨rfl, vs, .inl (.of c3)⟩, a, vs, .str z, rfl, rfl, c3, by rw [c4.len]; exact Nat.lt_of_lt_of_le hc.2 (by decide), o _ _ _ _ [] C2 (.sc .non)⟩
          · exact o.elim
        · exact o.elim
      · exact o.elim
    · exact o.elim
def lastS (ds : List D) : Bool := match ds.getLast? with
  | some d => scD d
  | none => false
def mTPop (i t k : Nat) : EM := fun en => match en[i]? with
  | some (some (.clo n [])) => match en[t]? with
    | some (some d) => match fnd n d with
      | some ds => match ds.getLast? with
        | some x => if allT d && decide (ldep d ≤ k) && scD x && allN n List.dropLast lastS d then .ok x (en.set t (some (edAt n List.dropLast d))) else .bad
        | none => .bad
      | none => .bad
    | _ => .bad
  | _ => .bad
theorem ownL_drop : ∀ {ds : List D} {vs : List V} {fp : List Addr}, OwnL G Z H k vs ds fp → lastS ds = true → OwnL G Z H k vs.dropLast ds.dropLast fp := by
  intro ds
  induction ds with
  | nil => intro vs fp h e; cases e
  | cons d ds ih =>
    intro vs fp h e
    cases h with
    | cons h1 h2 =>
      rename_i v vs f1 f2
      cases ds with
      | nil =>
        cases h2
        have e : scD d = true := e
        obtain ⟨_, rfl⟩ := scD_scv h1 e
        exact .nil
      | cons d2 ds =>
        cases h2 with
        | @cons _ v2 _ vs2 _ _ _ g1 g2 =>
          have q := ih (.cons g1 g2) (by simpa [lastS] using e)
          exact .cons h1 q
theorem OwnL.lastV : ∀ {ds : List D} {vs : List V} {fp : List Addr} {x : D}, OwnL G Z H k vs ds fp → ds.getLast? = some x → scD x = true → ∃ y, vs[vs.length - 1]? = some y ∧ ScV y x := by
  intro ds vs fp x h e s
  have hl := h.len
  rw [List.getLast?_eq_getElem?] at e
  obtain ⟨y, fp', q1, q2, _⟩ := h.get e
  exact ⟨y, by rw [hl]; exact q1, (scD_scv q2 s).1⟩
/-- the last taken off a list known by its tag -/
theorem ei_tpop {i t : Nat} {x : Str} {p apos : Pos} (TO : TagOk G) (hN : X.N[i]? = some x) (hv : Vis X.env.scope x) (hk : Γ.getD t 0 = k) (ht : t ∉ lk := by decide) (hd : (x == ("__debug__" : Str)) = false := by decide) (hcd : (x == ("__classdict__" : Str)) = false := by decide)
    (hbase : attributeBase (.Name x p) "pop" X.env (eval (.Name x p) X.env) = eval (.Name x p) X.env := by rfl) (hline : (apos.endLine == pos.line) = true := by rfl) :
    EI X G W lk Γ (.Call (.Attribute (.Name x p) "pop" apos) [] [] pos) κ' [] Γ (mTPop i t k) :=
  PE.imp (pe_bm0 PySem.F.plainAttrs_list PySem.F.slot_list_pop PySem.F.type_list_pop mt_pop (pe_var hN hv hd hcd) hbase hline) fun σ H Q ⟨B, Z, en, fps, C, o⟩ => by
    unfold mTPop at o
    split at o
    · rename_i n ei
      split at o
      · rename_i d et
        split at o
        · rename_i ds ef
          split at o
          · rename_i x el
            split at o
            · rename_i hc
              simp only [Bool.and_eq_true, decide_eq_true_eq] at hc
              obtain ⟨v, s1, s2⟩ := C.rep i _ ei
              obtain ⟨a, rfl, hcl⟩ := own_clo0 s2
              obtain ⟨w, t1, t2⟩ := C.rep t _ et
              rw [hk] at t2
              obtain ⟨a', vs, k', fp', c1, c2, c3, c4⟩ := own_fnd d t2 hc.1.1.2 ef
              obtain rfl := TO.one _ _ _ _ hcl c1
              have hI : StayI H (upd H a (.lst (List.dropLast vs))) := fun b o' q n => upd_at q fun z => by subst z; rw [c3] at q; cases q; exact n trivial
              have ed := own_ed (f := List.dropLast) (p := lastS) (fV := List.dropLast) TO hcl c3 (C.nz t a c2) hI (fun k ds fp hp h => ownL_drop h hp) d t2 hc.1.1.1 hc.2
              rw [← hk] at ed
              have C2 := C.mutD (t := t) (a := a) et t1 c2 c3 trivial ht ed
              obtain ⟨y, y1, y2⟩ := c4.lastV el hc.1.2
              exact ⟨.ref a, s1, .inl ⟨rfl, vs, .inl (.of c3)⟩, a, vs, y, rfl, rfl, c3, y1, o _ _ _ _ [] C2 (.sc y2)⟩
            · exact o.elim
          · exact o.elim
        · exact o.elim
      · exact o.elim
    · exact o.elim
/-! ### tags given at the start of a def -/
mutual
def noTag : D → Bool
  | .tl _ _ | .clo _ _ => false
  | .tup ds | .lst ds => noTagL ds
  | .exc _ x => noTag x
  | _ => true
def noTagL : List D → Bool
  | [] => true
  | d :: ds => noTag d && noTagL ds
end
section
variable {fn cls : Str → Option Addr} {cl cl' : Addr → Nat → List V → Prop}
mutual
theorem own_regen : ∀ (d : D) {k : Nat} {v : V} {fp : List Addr}, noTag d = true → Own (mkG K fn cls cl) Z H k v d fp → Own (mkG K fn cls cl') Z H k v d fp
  | .tup ds, k, v, fp, hn, h => by
    cases h with
    | tup e hl => exact .tup e (ownL_regen ds (by simpa only [noTag] using hn) hl)
  | .lst ds, k, v, fp, hn, h => by
    have hn := (show noTagL ds = true by simpa only [noTag] using hn)
    cases h with
    | lst z e hl => exact .lst z e (ownL_regen ds hn hl)
    | own e hl => exact .own e (ownL_regen ds hn hl)
  | .exc c x, k, v, fp, hn, h => by
    cases h with
    | exc e h => exact .exc e (own_regen x (by simpa only [noTag] using hn) h)
  | .non, _, _, _, _, h => by cases h; exact .non
  | .bl _, _, _, _, _, h => by cases h; exact .bl
  | .int _, _, _, _, _, h => by cases h; exact .int
  | .str _, _, _, _, _, h => by cases h; exact .str
  | .edict, _, _, _, _, h => by
    cases h with
    | ed0 z e => exact .ed0 z e
    | edS e => exact .edS e
  | .fn _, _, _, _, _, h => by
    cases h with
    | fn e => exact .fn e
  | .scr _, _, _, _, _, h => by
    cases h with
    | scr e => exact .scr e
  | .clo _ _, _, _, _, hn, _ => by simp [noTag] at hn
  | .tl _ _, _, _, _, hn, _ => by simp [noTag] at hn
theorem ownL_regen : ∀ (ds : List D) {k : Nat} {vs : List V} {fp : List Addr}, noTagL ds = true → OwnL (mkG K fn cls cl) Z H k vs ds fp → OwnL (mkG K fn cls cl') Z H k vs ds fp
  | [], _, _, _, _, h => by cases h; exact .nil
  | d :: ds, k, vs, fp, hn, h => by
    simp only [noTagL, Bool.and_eq_true] at hn
    cases h with
    | cons h1 h2 => exact .cons (own_regen d hn.1 h1) (ownL_regen ds hn.2 h2)
end
mutual
def nls : D → Nat
  | .lst ds => nlsL ds + 1
  | .tup ds => nlsL ds
  | _ => 0
def nlsL : List D → Nat
  | [] => 0
  | d :: ds => nls d + nlsL ds
end
mutual
def tagD (n : Nat) : D → D
  | .lst ds => .tl n (tagL (n + 1) ds)
  | .tup ds => .tup (tagL n ds)
  | .non => .non
  | .bl b => .bl b
  | .int i => .int i
  | .str x => .str x
  | .tl m ds => .tl m ds
  | .edict => .edict
  | .fn x => .fn x
  | .exc c v => .exc c v
  | .scr ns => .scr ns
  | .clo n xs => .clo n xs
def tagL (n : Nat) : List D → List D
  | [] => []
  | d :: ds => tagD n d :: tagL (n + nls d) ds
end
mutual
/-- lists, tuples, scalars -/
def pln : D → Bool
  | .lst ds | .tup ds => plnL ds
  | .non | .bl _ | .int _ | .str _ => true
  | _ => false
def plnL : List D → Bool
  | [] => true
  | d :: ds => pln d && plnL ds
end
mutual
theorem own_nls : ∀ (d : D) {k : Nat} {v : V} {fp : List Addr}, Own (mkG K fn cls cl) Z H k v d fp → pln d = true → ldep d ≤ k → fp.length = nls d
  | .lst ds, k, v, fp, h, hp, hk => by
    have hp := (show plnL ds = true by simpa only [pln] using hp)
    simp only [ldep] at hk
    cases h with
    | lst z e hl => omega
    | own e hl => simp only [nls, List.length_cons, ownL_nls ds hl hp (by omega)]
  | .tup ds, k, v, fp, h, hp, hk => by
    cases h with
    | tup e hl => simpa only [nls] using ownL_nls ds hl (by simpa only [pln] using hp) (by simpa only [ldep] using hk)
  | .non, _, _, _, h, _, _ => by cases h; rfl
  | .bl _, _, _, _, h, _, _ => by cases h; rfl
  | .int _, _, _, _, h, _, _ => by cases h; rfl
  | .str _, _, _, _, h, _, _ => by cases h; rfl
  | .edict, _, _, _, _, hp, _ => by simp [pln] at hp
  | .fn _, _, _, _, _, hp, _ => by simp [pln] at hp
  | .exc _ _, _, _, _, _, hp, _ => by simp [pln] at hp
  | .scr _, _, _, _, _, hp, _ => by simp [pln] at hp
  | .clo _ _, _, _, _, _, hp, _ => by simp [pln] at hp
  | .tl _ _, _, _, _, _, hp, _ => by simp [pln] at hp
theorem ownL_nls : ∀ (ds : List D) {k : Nat} {vs : List V} {fp : List Addr}, OwnL (mkG K fn cls cl) Z H k vs ds fp → plnL ds = true → ldepL ds ≤ k → fp.length = nlsL ds
  | [], _, _, _, h, _, _ => by cases h; rfl
  | d :: ds, k, vs, fp, h, hp, hk => by
    simp only [plnL, Bool.and_eq_true] at hp
    simp only [ldepL] at hk
    cases h with
    | cons h1 h2 => rw [List.length_append, own_nls d h1 hp.1 (by omega), ownL_nls ds h2 hp.2 (by omega)]; rfl
end
mutual
theorem own_tag : ∀ (d : D) {n k : Nat} {v : V} {fp : List Addr}, Own (mkG K fn cls cl) Z H k v d fp → pln d = true → ldep d ≤ k → (∀ i a, fp[i]? = some a → cl' a (n + i) []) → Own (mkG K fn cls cl') Z H k v (tagD n d) fp
  | .lst ds, n, k, v, fp, h, hp, hk, hc => by
    have hp := (show plnL ds = true by simpa only [pln] using hp)
    simp only [ldep] at hk
    simp only [tagD]
    cases h with
    | lst z e hl => omega
    | own e hl =>
      refine .tag (hc 0 _ rfl) (.own e (ownL_tag ds hl hp (by omega) fun i b hb => ?_))
      have := hc (i + 1) b (by simpa using hb)
      rwa [show n + (i + 1) = n + 1 + i by omega] at this
  | .tup ds, n, k, v, fp, h, hp, hk, hc => by
    simp only [tagD]
    cases h with
    | tup e hl => exact .tup e (ownL_tag ds hl (by simpa only [pln] using hp) (by simpa only [ldep] using hk) hc)
  | .non, _, _, _, _, h, _, _, _ => by cases h; exact .non
  | .bl _, _, _, _, _, h, _, _, _ => by cases h; exact .bl
  | .int _, _, _, _, _, h, _, _, _ => by cases h; exact .int
  | .str _, _, _, _, _, h, _, _, _ => by cases h; exact .str
  | .edict, _, _, _, _, _, hp, _, _ => by simp [pln] at hp
  | .fn _, _, _, _, _, _, hp, _, _ => by simp [pln] at hp
  | .exc _ _, _, _, _, _, _, hp, _, _ => by simp [pln] at hp
  | .scr _, _, _, _, _, _, hp, _, _ => by simp [pln] at hp
  | .clo _ _, _, _, _, _, _, hp, _, _ => by simp [pln] at hp
  | .tl _ _, _, _, _, _, _, hp, _, _ => by simp [pln] at hp
theorem ownL_tag : ∀ (ds : List D) {n k : Nat} {vs : List V} {fp : List Addr}, OwnL (mkG K fn cls cl) Z H k vs ds fp → plnL ds = true → ldepL ds ≤ k → (∀ i a, fp[i]? = some a → cl' a (n + i) []) → OwnL (mkG K fn cls cl') Z H k vs (tagL n ds) fp
  | [], _, _, _, _, h, _, _, _ => by cases h; exact .nil
  | d :: ds, n, k, vs, fp, h, hp, hk, hc => by
    simp only [plnL, Bool.and_eq_true] at hp
    simp only [ldepL] at hk
    simp only [tagL]
    cases h with
    | cons h1 h2 =>
      rename_i f1 f2
      have l1 := own_nls d h1 hp.1 (by omega)
      refine .cons (own_tag d h1 hp.1 (by omega) fun i a ha => hc i a ?_) (ownL_tag ds h2 hp.2 (by omega) fun i a ha => ?_)
      · have hi := (List.getElem?_eq_some_iff.mp ha).1
        rw [List.getElem?_append_left hi]; exact ha
      · have := hc (nls d + i) a (by rw [← l1, List.getElem?_append_right (by omega), show f1.length + i - f1.length = i by omega]; exact ha)
        rwa [show n + (nls d + i) = n + nls d + i by omega] at this
end
/-- the addresses as, by their places -/
def byAd (as : List Addr) : Addr → Nat → List V → Prop := fun a n vs => as[n]? = some a ∧ vs = []
theorem tagOk_ad {as : List Addr} (nd : as.Nodup) : TagOk (mkG K fn cls (byAd as)) where
  one := fun H a b n ⟨h1, _⟩ ⟨h2, _⟩ => by rw [h1] at h2; exact Option.some.inj h2
  tag := fun H a m n ⟨h1, _⟩ ⟨h2, _⟩ => by
    have h1 : as[m]? = some a := h1
    have h2 : as[n]? = some a := h2
    have l1 := (List.getElem?_eq_some_iff.mp h1)
    have l2 := (List.getElem?_eq_some_iff.mp h2)
    obtain ⟨i1, e1⟩ := l1
    obtain ⟨i2, e2⟩ := l2
    have p := List.pairwise_iff_getElem.mp nd
    rcases Nat.lt_trichotomy m n with q | q | q
    · exact absurd (e1.trans e2.symm) (p m n i1 i2 q)
    · exact q
    · exact absurd (e2.trans e1.symm) (p n m i2 i1 q)
def noTagO : En → Bool
  | [] => true
  | none :: l => noTagO l
  | some d :: l => noTag d && noTagO l
theorem noTagO_at : ∀ {l : En} {j : Nat} {d : D}, noTagO l = true → l[j]? = some (some d) → noTag d = true
  | [], j, d, _, e => by simp at e
  | none :: l, 0, d, _, e => by simp at e
  | none :: l, j + 1, d, h, e => noTagO_at (l := l) (by simpa only [noTagO] using h) (by simpa using e)
  | some x :: l, 0, d, h, e => by
    simp only [noTagO, Bool.and_eq_true] at h
    simp at e
    subst e
    exact h.1
  | some x :: l, j + 1, d, h, e => by
    simp only [noTagO, Bool.and_eq_true] at h
    exact noTagO_at (l := l) h.2 (by simpa using e)
/-- F, its second parameter's lists tagged -/
def tagF (k : Nat) (F : List D → FRes) : List D → FRes := fun ds => match ds with
  | [g, t, gv] => if noTag g && noTag gv && pln t && decide (ldep t ≤ k) then match F [g, tagD 0 t, gv] with
      | .ok d ios => if noTag d && noTagO ios then .ok d ios else .bad
      | _ => .bad
    else .bad
  | _ => .bad
theorem spI_tag {κr : Nat} {F : List D → FRes} {io : List (Option Nat)} {vs : List V} {Q : VK} {E : XK} (h : spI (mkG K fn cls cl) ⟨[1, k, 0], io, κr⟩ (tagF k F) vs H Q E) : ∃ as : List Addr, as.Nodup ∧ spI (mkG K fn cls (byAd as)) ⟨[1, k, 0], io, κr⟩ F vs H Q E := by
  obtain ⟨hl, Z, ds, f, zt, ha, he⟩ := h
  match ds, he with
  | [g, t, gv], he =>
    unfold tagF at he
    dsimp only at he
    split at he
    · rename_i hc
      simp only [Bool.and_eq_true, decide_eq_true_eq] at hc
      refine ⟨f 1, ha.nd 1, hl, Z, [g, tagD 0 t, gv], f, zt, ⟨fun j d e => ?_, ha.len, ha.emp, ha.nd, ha.dis, ha.nz⟩, ?_⟩
      · match j, e with
        | 0, e =>
          cases e
          obtain ⟨v, h1, h2⟩ := ha.own 0 g rfl
          exact ⟨v, h1, own_regen g hc.1.1.1 h2⟩
        | 1, e =>
          cases e
          obtain ⟨v, h1, h2⟩ := ha.own 1 t rfl
          exact ⟨v, h1, own_tag t h2 hc.1.2 hc.2 fun i a q => ⟨by rw [Nat.zero_add]; exact q, rfl⟩⟩
        | 2, e =>
          cases e
          obtain ⟨v, h1, h2⟩ := ha.own 2 gv rfl
          exact ⟨v, h1, own_regen gv hc.1.1.2 h2⟩
        | j + 3, e => simp at e
      · cases eF : F [g, tagD 0 t, gv] with
        | bad => rw [eF] at he; exact he
        | exc c x => rw [eF] at he; exact he.elim
        | ok d ios =>
          rw [eF] at he
          dsimp only at he
          split at he
          · rename_i hd
            rw [Bool.and_eq_true] at hd
            intro v Z' H' fr f' x
            exact he v Z' H' fr f' ⟨x.keep, x.zb, x.zn, x.zt, own_regen d hd.1 x.own, x.nd, x.nz, x.nw, fun j d' q => by
              obtain ⟨k, w, q1, q2, q3⟩ := x.io j d' q
              exact ⟨k, w, q1, q2, own_regen d' (noTagO_at hd.2 q) q3⟩, x.ind, x.inz, x.inw, x.ap⟩
          · exact he.elim
    · exact he.elim
  | [], he => exact he.elim
  | [_], he => exact he.elim
  | [_, _], he => exact he.elim
  | _ :: _ :: _ :: _ :: _, he => exact he.elim
/-- a def that tags its second parameter's lists -/
theorem fn_tag {P : Program} {w : World} {mg : Str → Option Value} {base : Heap} {kk : Nat} {f : Addr} {fd : FuncData} {ps : List Str} {κr : Nat} {io : List (Option Nat)} {F : List D → FRes} (hps : ps.length = 3)
    (h : ∀ as : List Addr, as.Nodup → FnG P w K mg base (L2.CX P w) kk f fd ps (spI (mkG K fn cls (byAd as)) ⟨[1, k, 0], io, κr⟩ F)) : FnG P w K mg base (L2.CX P w) kk f fd ps (spI (mkG K fn cls cl) ⟨[1, k, 0], io, κr⟩ (tagF k F)) :=
  ⟨fun vs H Q E q => by rw [hps]; exact q.1, fun A outer s H args us vs Q E hg hr e0 hb r q => by
    obtain ⟨as, nd, q⟩ := spI_tag q
    exact (h as nd).run A outer s H args us vs Q E hg hr e0 hb r q⟩
end
end
end Im
/-! xs[i] += c. -/
namespace Im
open PySem PySem.Spec PyProof.Rows L2
section
variable {G : GI} {B B' : Bs} {W : WX} {lk lk' L L' La Lb : List Nat} {Z Z' : Addr → Prop} {σ σ' : St} {H H' : Hp} {Γ Γ' Γ0 Γ1 Γ2 Γ3 : List Nat} {en en' : En} {fps fps' : Nat → List Addr} {κ κ' k : Nat} {κs : List Nat} {v : V} {d : D} {ro : RO}
variable {X : Cx} {pos : Pos} {m ma mb mc : EM} {e a b c : Expr} {K : PySem.W.Frag}
theorem get_listL : PGet X (rIxL X.K) := by
  intro pins s σ H x y v u Q I rx ry h
  obtain ⟨p, xs, i, z, rfl, rfl, hq, he, q⟩ := h
  cases rx
  obtain ⟨t, rfl⟩ := ry
  obtain ⟨its, r, pl, hz⟩ := I.list hq
  obtain ⟨j, h1, h2, h3, h4, h5⟩ := atI_get he
  obtain ⟨w, ew, rw'⟩ := r.get h2
  have hl := r.length
  have hn := line63
  have fin : EP X pins σ Q w s := ⟨z, H, I, rw', q⟩
  by_cases h0 : 0 ≤ i
  · have hj : i.toNat = j := Option.some.inj ((seqIndex_of h0 h5).symm.trans h1)
    exact wpAny_getItem_list pl.isList h0 (by omega) (by rw [hj]; simpa using ew) fin
  · have hj : (i + (its.toArray.size : Int)).toNat = j := by
      rw [List.size_toArray, ← hl]
      exact Option.some.inj ((seqIndex_neg (by omega) h4).symm.trans h1)
    exact wpAny_getItem_list_neg pl.isList (by omega) (by rw [List.size_toArray] <;> omega) (by omega) (by rw [hj]; simpa using ew) fin
def mAugC (i : Nat) (m : EM) (q : Int) : SM := fun en => match atL i en with
  | some _ => match m en with
    | .ok (.int j) en2 => match atL i en2 with
      | some ds => match ixN ds.length j with
        | some n => match ds[n]? with
          | some (.int x) => .nx (en2.set i (some (.lst (ds.set n (.int (x + q))))))
          | _ => .bad
        | none => .bad
      | none => .bad
    | .ok _ _ => .bad
    | .exc c x => .exc c x
    | .bad => .bad
  | none => .bad
theorem si_augC {i kc : Nat} {q : Int} {x : Str} {p tpos cp : Pos} {md : Md} (hN : X.N[i]? = some x) (hv : Vis X.env.scope x) (hk : Γ.getD i 0 = 1) (hk1 : Γ1.getD i 0 = 1) (hb : OI X G W lk Γ b md Γ1 m) (hi : i ∉ lk := by decide) (hd : (x == ("__debug__" : Str)) = false := by decide) (hcd : (x == ("__classdict__" : Str)) = false := by decide)
    (ha : ∀ ov iv new, augStore b ov iv new = (do holding [new, ov, iv] (setItem ov iv new); release [new, ov, iv] []; pure .next) := by intros; rfl) (hs : PlainIx b := by intro _ _; rfl) :
    SI X G W lk ro Γ (.AugAssign (.Subscript (.Name x p) b tpos) .Add (.Constant (.int q) kc cp) pos) Γ1 (mAugC i m q) :=
  PS.imp (ps_augS (pe_var hN hv hd hcd) hb get_listL pe_int ip_add set_list ha) fun D σ H ⟨B, Z, en, fps, P, C, o⟩ => by
    unfold mAugC at o
    cases e0 : atL i en with
    | none => rw [e0] at o; exact o.elim
    | some ds0 =>
      rw [e0] at o
      dsimp only at o
      obtain ⟨a, vs0, fp0, s1, s2, s3, s4⟩ := C.lst_at (k := 0) hk (atL_of e0)
      refine ⟨.ref a, s1, B, Z, en, fps, C, ?_⟩
      cases em : m en with
      | bad => rw [em] at o; exact o.elim
      | exc c x => rw [em] at o; exact fun Cc dd H' y => o Cc dd σ H' y
      | ok dj en2 =>
        rw [em] at o
        cases dj with
        | int j =>
          dsimp only at o
          intro w Z2 H2 fps2 C2 hw
          obtain ⟨_, _, _, qw⟩ := Md.any hw
          have ew := own_int qw
          subst ew
          cases e2 : atL i en2 with
          | none => rw [e2] at o; exact o.elim
          | some ds =>
            rw [e2] at o
            dsimp only at o
            cases en_ : ixN ds.length j with
            | none => rw [en_] at o; exact o.elim
            | some n =>
              rw [en_] at o
              dsimp only at o
              obtain ⟨a', vs, fq, t1, t2, t3, t4⟩ := C2.lst_at (k := 0) hk1 (atL_of e2)
              rw [s1] at t1; cases t1
              cases ed : ds[n]? with
              | none => rw [ed] at o; exact o.elim
              | some dx =>
                rw [ed] at o
                cases dx with
                | int x =>
                  dsimp only at o
                  obtain ⟨y, fy, y1, y2, _⟩ := t3.get ed
                  have ey := own_int y2
                  subst ey
                  obtain ⟨_, hn, _, _⟩ := ixN_seq en_
                  obtain rfl := t3.z0
                  have hvn : atI vs j = some (.int x) := by
                    unfold atI
                    rw [t3.len, en_]
                    exact y1
                  obtain ⟨f1, f2, f3, q1, q2⟩ := t3.put (fv := []) (.int (i := x + q)) hn
                  obtain ⟨rfl, q3⟩ := List.append_eq_nil_iff.mp q1.symm
                  obtain ⟨rfl, rfl⟩ := List.append_eq_nil_iff.mp q3
                  have C3 := C2.mut s1 hk1 t4 ⟨vs, t2⟩ hi q2 List.nodup_nil (fun h => nomatch h) (fun _ h => nomatch h) (fun _ h => nomatch h) (fun _ h => nomatch h)
                  exact ⟨a, vs, j, .int x, rfl, rfl, .inl (.of t2), hvn, x, q, rfl, rfl, a, vs, j, n, rfl, rfl, t2, by rw [t3.len]; exact en_, o _ _ _ _ C3⟩
                | _ => exact o.elim
        | _ => exact o.elim
/-! ### in short -/
theorem xL (i : Nat) {x : Str} (hN : X.N[i]? = some x := by rfl) (hv : Vis X.env.scope x := by first | exact Or.inl rfl | exact Or.inr (Or.inl rfl) | exact Or.inr (Or.inr rfl)) (hd : (x == ("__debug__" : Str)) = false := by decide) (hcd : (x == ("__classdict__" : Str)) = false := by decide) :
    EI X G W lk Γ (.Name x pos) 0 [i] Γ (mVar i) := ei_lend hN hv hd hcd
theorem xReprN (i : Nat) {x y : Str} {p px : Pos} (hc : CallR X (.builtin "repr") (rRepr X.K)) (lnk : Lk1 G (rRepr X.K) dRepr) (hg : Gl X x) (hm : X.mg x = none) (hvb : bootBuiltins x = some (.builtin "repr")) (hN : X.N[i]? = some y := by rfl) (hv : Vis X.env.scope y := by first | exact Or.inl rfl | exact Or.inr (Or.inl rfl) | exact Or.inr (Or.inr rfl)) (hn : x ≠ "__name__" := by decide) (hdb : (x == ("__debug__" : Str)) = false := by decide)
    (hd : (y == ("__debug__" : Str)) = false := by decide) (hcd : (y == ("__classdict__" : Str)) = false := by decide)
    (he : starEach (.Name y px :: []) X.env = (false, eval (.Name y px) X.env) :: starEach [] X.env := by rfl) : EI X G W lk Γ (.Call (.Name x p) [.Name y px] [] pos) κ [] Γ (m1 dRepr (mVar i)) :=
  ei_b1N hN hv hc lnk hg hm hvb hn hdb hd hcd he
end
end Im
namespace Im
open PySem PySem.Spec PyProof.Rows L2
/-! ### the text -/
def top (i : Nat) : Stmt := PySem.Challenge.pw_pairedboards_k77_whole_boxes_below_ways.main.body.getD i (.Pass ⟨0, 0, 0, 0⟩)
abbrev s_is_whole : Stmt := top 5
abbrev s_is_place : Stmt := top 9
abbrev s_end_of : Stmt := top 10
abbrev s_is_way_by : Stmt := top 11
abbrev s_words_with : Stmt := top 12
abbrev s_check_side : Stmt := top 15
abbrev s_check_from : Stmt := top 16
abbrev s_boxes_by : Stmt := top 17
abbrev s_boxes_below : Stmt := top 18
abbrev s_ways_by_boxes : Stmt := top 19
abbrev s__law_hash : Stmt := top 21
abbrev s__law_random : Stmt := top 22
abbrev s__law_cell : Stmt := top 23
abbrev s__law_generator : Stmt := top 24
abbrev s__law_pick : Stmt := top 25
abbrev s__law_exact : Stmt := top 26
abbrev s__law_lists : Stmt := top 27
abbrev s__law_own : Stmt := top 28
abbrev s__law_words : Stmt := top 29
abbrev s__law_chosen : Stmt := top 30
abbrev s__law_bad_way : Stmt := top 31
abbrev s__law_caught : Stmt := top 32
abbrev s__law_below : Stmt := top 33
abbrev s__law_times : Stmt := top 34
abbrev s_law : Stmt := top 35
/-! ### the plain functions -/
def m_is_whole : SM := (mRet [none] (mAnd (m1 (dIsI "int") (mVar 0)) (mNot (m1 (dIsI "bool") (mVar 0)))))
abbrev sg_is_whole : Sg := ⟨[0], [none], 0⟩
def F_is_whole : List D → FRes := runF 1 [none] m_is_whole
def m_is_place : SM := (mSeq (mIfS (mOr (mNot (m1 (dIsI "tuple") (mVar 0))) (mOr (mB (eqD true) (m1 dLen (mVar 0)) (mC (.int 2))) (mOr (mNot (mCall F_is_whole [0] (mCons (mB dIx (mVar 0) (mC (.int 0))) mNil))) (mNot (mCall F_is_whole [0] (mCons (mB dIx (mVar 0) (mC (.int 1))) mNil)))))) (mRet [none] (mC (.bl false))) mPass)
  (mRet [none] (mAnd (mChain dLe dLe (mC (.int 0)) (mB dIx (mVar 0) (mC (.int 0))) (mC (.int 12))) (mChain dLe dLe (mC (.int 0)) (mB dIx (mVar 0) (mC (.int 1))) (mC (.int 12))))))
abbrev sg_is_place : Sg := ⟨[0], [none], 0⟩
def F_is_place : List D → FRes := runF 1 [none] m_is_place
def m_end_of : SM := (mRet [none] (mTup (mCons (mB dAddX (mB dIx (mB dIx (mVar 0) (mC (.int 1))) (mC (.int 0))) (mB dCount (mS (mB dIx (mVar 0) (mC (.int 2)))) (mC (.str "R")))) (mCons (mB dAddX (mB dIx (mB dIx (mVar 0) (mC (.int 1))) (mC (.int 1))) (mB dCount (mS (mB dIx (mVar 0) (mC (.int 2)))) (mC (.str "U")))) mNil))))
abbrev sg_end_of : Sg := ⟨[0], [none], 0⟩
def F_end_of : List D → FRes := runF 1 [none] m_end_of
def m_is_way_by : SM := (mSeq (mIfS (mOr (mNot (m1 (dIsI "tuple") (mVar 0))) (mOr (mB (eqD true) (m1 dLen (mVar 0)) (mC (.int 3))) (mOr (mNot (m1 (dIsI "str") (mB dIx (mVar 0) (mC (.int 0))))) (mB (eqD true) (mB dIx (mVar 0) (mC (.int 0))) (mC (.str "way")))))) (mRet [none] (mC (.bl false))) mPass)
  (mSeq (mIfS (mOr (mNot (mCall F_is_place [0] (mCons (mB dIx (mVar 0) (mC (.int 1))) mNil))) (mOr (mNot (m1 (dIsI "str") (mB dIx (mVar 0) (mC (.int 2))))) (mB dGt (m1 dLen (mB dIx (mVar 0) (mC (.int 2)))) (mC (.int 12))))) (mRet [none] (mC (.bl false))) mPass)
  (mRet [none] (mAnd (m1 dAll (mLc (mIt dItems (mB dIx (mVar 0) (mC (.int 2)))) (gSet 1) (mC (.bl true)) (mB (dInS false) (mVarS 1) (mC (.str "RU"))) [1])) (mCall F_is_place [0] (mCons (mCall F_end_of [0] (mCons (mVar 0) mNil)) mNil))))))
abbrev sg_is_way_by : Sg := ⟨[0], [none], 0⟩
def F_is_way_by : List D → FRes := runF 2 [none] m_is_way_by
def m_words_with : SM := (mSeq (mSet 2 (mLst (mCons (mTup (mCons (mC (.str "")) (mCons (mVarS 0) (mCons (mVarS 1) mNil)))) mNil)))
  (mSeq (mFor (mRng1 (mB dAddX (mVarS 0) (mVarS 1))) (gSet 3) (mSeq (mSet 4 (mLst mNil))
  (mSeq (mFor (mIt dItems (mVar 2)) (mgTup 3 (gCons (gSet 5) (gCons (gSet 6) (gCons (gSet 7) gNil)))) (mSeq (mSet 4 (mB dCat (mVar 4) (mIf (mB dGt (mVarS 6) (mC (.int 0))) (mLst (mCons (mTup (mCons (mB dAddX (mVarS 5) (mC (.str "R"))) (mCons (mB dSub (mVarS 6) (mC (.int 1))) (mCons (mVarS 7) mNil)))) mNil)) (mLst mNil))))
  (mSet 4 (mB dCat (mVar 4) (mIf (mB dGt (mVarS 7) (mC (.int 0))) (mLst (mCons (mTup (mCons (mB dAddX (mVarS 5) (mC (.str "U"))) (mCons (mVarS 6) (mCons (mB dSub (mVarS 7) (mC (.int 1))) mNil)))) mNil)) (mLst mNil))))))
  (mSet 2 (mVar 4)))))
  (mRet [none, none] (mLc (mIt dItems (mVar 2)) (mgTup 3 (gCons (gSet 5) (gCons (gSet 3) (gCons (gSet 3) gNil)))) (mC (.bl true)) (mVarS 5) [5, 3]))))
abbrev sg_words_with : Sg := ⟨[0, 0], [none, none], 0⟩
def F_words_with : List D → FRes := runF 8 [none, none] m_words_with
def m_check_side : SM := (mIfS (mOr (mNot (mCall F_is_whole [0] (mCons (mVar 0) mNil))) (mNot (mChain dLe dLe (mC (.int 0)) (mVar 0) (mC (.int 6))))) (mRaise "InvalidNumber" (mVar 0)) mPass)
abbrev sg_check_side : Sg := ⟨[0], [none], 0⟩
def F_check_side : List D → FRes := runF 1 [none] m_check_side
def m_check_from : SM := (mIfS (mOr (mNot (mCall F_is_way_by [0] (mCons (mVar 0) mNil))) (mB (eqD true) (mB dIx (mVar 0) (mC (.int 1))) (mTup (mCons (mC (.int 0)) (mCons (mC (.int 0)) mNil))))) (mRaise "InvalidWay" (mVar 0)) mPass)
abbrev sg_check_from : Sg := ⟨[0], [none], 0⟩
def F_check_from : List D → FRes := runF 1 [none] m_check_from
def m_boxes_by : SM := (mSeq (mAsg (mTup (mCons (mC (.int 0)) (mCons (mC (.int 0)) mNil))) (mgTup 2 (gCons (gSet 1) (gCons (gSet 2) gNil))))
  (mSeq (mFor (mIt dItems (mVarS 0)) (gSet 3) (mPar 1 2 (mCons (mB dAddX (mVarS 1) (mB dMulX (mVarS 2) (m1 dInt (mB (eqD false) (mVarS 3) (mC (.str "R")))))) (mCons (mB dAddX (mVarS 2) (m1 dInt (mB (eqD false) (mVarS 3) (mC (.str "U"))))) mNil))))
  (mRet [none] (mVarS 1))))
abbrev sg_boxes_by : Sg := ⟨[0], [none], 0⟩
def F_boxes_by : List D → FRes := runF 4 [none] m_boxes_by
def m_boxes_below : SM := (mSeq (mDrop (mCall F_check_from [0] (mCons (mVar 0) mNil)))
  (mRet [none] (mCall F_boxes_by [0] (mCons (mB dIx (mVar 0) (mC (.int 2))) mNil))))
abbrev sg_boxes_below : Sg := ⟨[0], [none], 0⟩
def F_boxes_below : List D → FRes := runF 1 [none] m_boxes_below
def m_ways_by_boxes : SM := (mSeq (mDrop (mCall F_check_side [0] (mCons (mVar 0) mNil)))
  (mSeq (mDrop (mCall F_check_side [0] (mCons (mVar 1) mNil)))
  (mSeq (mSet 2 (mB dRep (mLst (mCons (mC (.int 0)) mNil)) (mB dAddX (mB dMulX (mVar 0) (mVar 1)) (mC (.int 1)))))
  (mSeq (mFor (mIt dItems (mCall F_words_with [0, 1] (mCons (mVar 0) (mCons (mVar 1) mNil)))) (gSet 3) (mAugC 2 (mCall F_boxes_by [0] (mCons (mVar 3) mNil)) 1))
  (mRet [none, none] (mMove 2))))))
abbrev sg_ways_by_boxes : Sg := ⟨[0, 0], [none, none], 1⟩
def F_ways_by_boxes : List D → FRes := runF 4 [none, none] m_ways_by_boxes
def m__law_hash : SM := (mSeq (mSet 2 (mB dMod (m1 dInt (mB dAddX (mB dAddX (mB dAddX (mB dMulX (mVarS 0) (mC (.int 1220147))) (mB dMulX (mB dMulX (mC (.int 16777903)) (mVarS 1)) (mVarS 1))) (mB dMulX (mC (.int 223)) (mVarS 1))) (mC (.int 97)))) (mC (.int 2147483629))))
  (mSeq (mSet 2 (mB dMod (m1 dInt (mB dAddX (mB dAddX (mB dMulX (mVarS 2) (mVarS 2)) (mB dMulX (mC (.int 69019)) (mVarS 1))) (mC (.int 32416187)))) (mC (.int 2147483587))))
  (mRet [none, none] (mB dMod (m1 dInt (mB dMulX (mVarS 2) (mC (.int 48271)))) (mC (.int 2147483647))))))
abbrev sg__law_hash : Sg := ⟨[0, 0], [none, none], 0⟩
def F__law_hash : List D → FRes := runF 3 [none, none] m__law_hash
def m__law_random : SM := (mSeq (mIfS (mB dGt (mB dIx (mSee 0) (mC (.int 0))) (mC (.int 0))) (mSeq (mSet 2 (mB dMod (m1 dInt (mB dIx (mSee 0) (mC (.int 0)))) (mVarS 1)))
  (mSeq (mAsg (mB dDiv (mB dIx (mSee 0) (mC (.int 0))) (mVarS 1)) (gStore 0 (mC (.int 0))))
  (mRet [some 1, none] (mVarS 2)))) mPass)
  (mSeq (mSet 2 (mC (.int 0)))
  (mSeq (mFor (mRng1 (mB dAddX (mC (.int 1)) (mB dDiv (m1 dBits (mVarS 1)) (mC (.int 30))))) (gSet 3) (mSeq (mAsg (mB dAddX (mB dIx (mSee 0) (mC (.int 2))) (mC (.int 1))) (gStore 0 (mC (.int 2))))
  (mSet 2 (mB dAddX (mB dMulX (mVarS 2) (mC (.int 2147483587))) (mCall F__law_hash [0, 1] (mCons (mB dIx (mSee 0) (mC (.int 1))) (mCons (mB dIx (mSee 0) (mC (.int 2))) mNil)))))))
  (mRet [some 1, none] (mB dMod (m1 dInt (mVarS 2)) (mVarS 1))))))
abbrev sg__law_random : Sg := ⟨[1, 0], [some 1, none], 0⟩
def F__law_random : List D → FRes := runF 4 [some 1, none] m__law_random
def m__law_cell : SM := (mSeq (mIfS (mB dLt (mVarS 1) (m1 dLen (mVar 0))) (mRet [none, none] (mB dIx (mVar 0) (mVarS 1))) mPass)
  (mRet [none, none] (mB dMod (m1 dSum (mSl (mVar 0) mpN (mpS (mC (.int 1))))) (mC (.int 1000003)))))
abbrev sg__law_cell : Sg := ⟨[0, 0], [none, none], 0⟩
def F__law_cell : List D → FRes := runF 2 [none, none] m__law_cell
def m__law_generator : SM := (mSeq (mSet 2 (mCall F__law_cell [0, 1] (mCons (mVar 0) (mCons (mVarS 1) mNil))))
  (mRet [none, none] (mLst (mCons (mB dMod (m1 dInt (mB dMax (mB dSub (mVarS 2) (mB dPow (mC (.int 10)) (mC (.int 18)))) (mC (.int 0)))) (mB dPow (mB dPow (mC (.int 10)) (mC (.int 60))) (mC (.int 10)))) (mCons (mB dMod (m1 dInt (mVarS 2)) (mC (.int 2147483647))) (mCons (mB dMulX (mC (.int 1000)) (mVarS 1)) mNil))))))
abbrev sg__law_generator : Sg := ⟨[0, 0], [none, none], 1⟩
def F__law_generator : List D → FRes := runF 3 [none, none] m__law_generator
def m__law_pick : SM := (mRet [some 1, none] (mB dIx (mVar 1) (mCallR F__law_random [0, 1] 0 0 (mCons (mMove 0) (mCons (m1 dLen (mVar 1)) mNil)))))
abbrev sg__law_pick : Sg := ⟨[1, 0], [some 1, none], 0⟩
def F__law_pick : List D → FRes := runF 2 [some 1, none] m__law_pick
def m__law_exact (R : List D → FRes) : SM := (mSeq (mIfS (m1 (dIsI2 "list" "tuple") (mVar 0)) (mSeq (mIfS (mOr (mB (eqD true) (m1 (dIsI "list") (mVar 0)) (m1 (dIsI "list") (mVar 1))) (mB (eqD true) (m1 (dIsI "tuple") (mVar 0)) (m1 (dIsI "tuple") (mVar 1)))) (mRet [none, none] (mC (.bl false))) mPass)
  (mRet [none, none] (mAnd (mB (eqD false) (m1 dLen (mVar 1)) (m1 dLen (mVar 0))) (mB (eqD false) (mLc (mRng1 (m1 dLen (mVar 0))) (gSet 2) (mNot (mCall R [0, 1] (mCons (mB dIx (mVar 0) (mVarS 2)) (mCons (mB dIx (mVar 1) (mVarS 2)) mNil)))) (mVarS 2) [2]) (mLst mNil))))) mPass)
  (mSeq (mIfS (mOr (mB dIsN (mVar 0) (mC .non)) (m1 (dIsI "bool") (mVar 0))) (mRet [none, none] (mOr (mAnd (mB dIsN (mVar 0) (mC .non)) (mB dIsN (mVar 1) (mC .non))) (mOr (mAnd (mB dIsB (mVar 0) (mC (.bl true))) (mB dIsB (mVar 1) (mC (.bl true)))) (mAnd (mB dIsB (mVar 0) (mC (.bl false))) (mB dIsB (mVar 1) (mC (.bl false))))))) mPass)
  (mSeq (mIfS (m1 (dIsI "str") (mVar 0)) (mRet [none, none] (mAnd (m1 (dIsI "str") (mVar 1)) (mB (eqD false) (mVar 1) (mVar 0)))) mPass)
  (mRet [none, none] (mAnd (m1 (dIsI "int") (mVar 1)) (mAnd (mNot (m1 (dIsI "bool") (mVar 1))) (mB (eqD false) (mVar 1) (mVar 0))))))))
abbrev sg__law_exact : Sg := ⟨[0, 0], [none, none], 0⟩
def F__law_exact : Nat → List D → FRes
  | 0 => fun _ => .bad
  | n + 1 => runF 3 [none, none] (m__law_exact (F__law_exact n))
def m__law_lists (R : List D → FRes) : SM := (mSeq (mSet 1 (mIf (m1 (dIsI "list") (mVar 0)) (mLst (mCons (m1 dAli (mVar 0)) mNil)) (mLst mNil)))
  (mSeq (mFor (mIt dItems (mIf (m1 (dIsI2 "list" "tuple") (mVar 0)) (m1 dUnt (mVar 0)) (mLst mNil))) (gSet 2) (mSet 1 (mB dCat (mSee 1) (mCall R [0] (mCons (mVar 2) mNil)))))
  (mRet [none] (mMove 1))))
abbrev sg__law_lists : Sg := ⟨[0], [none], 1⟩
def F__law_lists : Nat → List D → FRes
  | 0 => fun _ => .bad
  | n + 1 => runF 3 [none] (m__law_lists (F__law_lists n))
def m__law_own : SM := (mSeq (mPar 3 4 (mCons (m1 dRepr (mVar 2)) (mCons (mFlat (mCall (F__law_lists 8) [0] (mCons (mVar 1) mNil))) mNil)))
  (mSeq (mFor (mRng1 (mB dMin (mC (.int 6)) (m1 dLen (mVar 4)))) (gSet 5) (mSeq (mSet 6 (mB dIx (mVar 4) (mCallR F__law_random [0, 1] 0 0 (mCons (mMove 0) (mCons (m1 dLen (mVar 4)) mNil)))))
  (mSeq (mDrop (mTApp 6 1 1 (.str "mark")))
  (mSeq (mIfS (mOr (mB (eqD true) (mB dCount (mS (m1 dRepr (mVar 1))) (mC (.str "'mark'"))) (mC (.int 1))) (mB (eqD true) (m1 dRepr (mVar 2)) (mVarS 3))) (mRet [some 1, none, none] (mC (.bl false))) mPass)
  (mDrop (mTPop 6 1 1))))))
  (mRet [some 1, none, none] (mC (.bl true)))))
abbrev sg__law_own : Sg := ⟨[1, 1, 0], [some 1, none, none], 0⟩
def F__law_own : List D → FRes := tagF 1 (runF 7 [some 1, none, none] m__law_own)
def m__law_words : SM := (mSeq (mSet 2 (mLst (mCons (mTup (mCons (mC (.str "")) (mCons (mVarS 0) (mCons (mVarS 1) mNil)))) mNil)))
  (mSeq (mFor (mRng1 (mB dAddX (mVarS 0) (mVarS 1))) (gSet 3) (mSeq (mSet 4 (mLst mNil))
  (mSeq (mFor (mIt dItems (mVar 2)) (mgTup 3 (gCons (gSet 5) (gCons (gSet 6) (gCons (gSet 7) gNil)))) (mSet 4 (mB dCat (mB dCat (mVar 4) (mB dRep (mLst (mCons (mTup (mCons (mB dAddX (mVarS 5) (mC (.str "R"))) (mCons (mB dSub (mVarS 6) (mC (.int 1))) (mCons (mVarS 7) mNil)))) mNil)) (m1 dInt (mB dGt (mVarS 6) (mC (.int 0)))))) (mB dRep (mLst (mCons (mTup (mCons (mB dAddX (mVarS 5) (mC (.str "U"))) (mCons (mVarS 6) (mCons (mB dSub (mVarS 7) (mC (.int 1))) mNil)))) mNil)) (m1 dInt (mB dGt (mVarS 7) (mC (.int 0))))))))
  (mSet 2 (mVar 4)))))
  (mRet [none, none] (mLc (mIt dItems (mVar 2)) (mgTup 3 (gCons (gSet 5) (gCons (gSet 6) (gCons (gSet 7) gNil)))) (mC (.bl true)) (mVarS 5) [5, 6, 7]))))
abbrev sg__law_words : Sg := ⟨[0, 0], [none, none], 0⟩
def F__law_words : List D → FRes := runF 8 [none, none] m__law_words
def m__law_chosen : SM := (mSeq (mSet 2 (mC (.int 1)))
  (mSeq (mFor (mRng1 (mVarS 1)) (gSet 3) (mSet 2 (mB dDiv (mB dMulX (mVarS 2) (mB dSub (mVarS 0) (mVarS 3))) (mB dAddX (mVarS 3) (mC (.int 1))))))
  (mRet [none, none] (mVarS 2))))
abbrev sg__law_chosen : Sg := ⟨[0, 0], [none, none], 0⟩
def F__law_chosen : List D → FRes := runF 4 [none, none] m__law_chosen
def m__law_bad_way : SM := (mSeq (mAsg (mVar 1) (mgTup 3 (gCons (gSet 2) (gCons (gSet 3) (gCons (gSet 4) gNil)))))
  (mSeq (mSet 5 (mLst (mCons (mC .non) (mCons (mTup mNil) (mCons (m1 dList (mVar 1)) (mCons (mTup (mCons (mC (.str "Way")) (mCons (mVar 3) (mCons (mVarS 4) mNil)))) (mCons (mTup (mCons (mC (.str "way")) (mCons (mVar 3) mNil))) (mCons (mTup (mCons (mC (.str "way")) (mCons (mVar 3) (mCons (mVarS 4) (mCons (mC (.int 1)) mNil))))) (mCons (mTup (mCons (mC (.str "way")) (mCons (m1 dList (mVar 3)) (mCons (mVarS 4) mNil)))) (mCons (mTup (mCons (mC (.str "way")) (mCons (mVar 3) (mCons (m1 dListC (mVarS 4)) mNil)))) mNil))))))))))
  (mSeq (mSet 5 (mB dCat (mVar 5) (mLst (mCons (mTup (mCons (mC (.str "way")) (mCons (mVar 3) (mCons (mB dAddX (mVarS 4) (mC (.str "x"))) mNil)))) (mCons (mTup (mCons (mC (.str "way")) (mCons (mVar 3) (mCons (mB dAddX (mVarS 4) (mC (.str "r"))) mNil)))) (mCons (mTup (mCons (mC (.str "way")) (mCons (mVar 3) (mCons (mB dMulX (mC (.str "R")) (mC (.int 13))) mNil)))) (mCons (mTup (mCons (mC (.str "way")) (mCons (mTup (mCons (mC (.int 12)) (mCons (mC (.int 0)) mNil))) (mCons (mC (.str "R")) mNil)))) (mCons (mTup (mCons (mC (.str "way")) (mCons (mTup (mCons (mC (.int 0)) (mCons (mC (.int 12)) mNil))) (mCons (mC (.str "U")) mNil)))) mNil))))))))
  (mSeq (mSet 5 (mB dCat (mVar 5) (mLst (mCons (mTup (mCons (mC (.str "way")) (mCons (mTup (mCons (mB dSub (mC (.int 0)) (mC (.int 1))) (mCons (mC (.int 0)) mNil))) (mCons (mC (.str "")) mNil)))) (mCons (mTup (mCons (mC (.str "way")) (mCons (mVar 3) (mCons (mC .non) mNil)))) (mCons (mTup (mCons (mC .non) (mCons (mVar 3) (mCons (mVarS 4) mNil)))) mNil))))))
  (mRet [some 1, none] (mCallR F__law_pick [0, 1] 0 0 (mCons (mMove 0) (mCons (mB dCat (mVar 5) (mLst (mCons (mTup (mCons (mC (.str "way")) (mCons (mTup (mCons (mC (.int 13)) (mCons (mC (.int 0)) mNil))) (mCons (mC (.str "")) mNil)))) (mCons (mTup (mCons (mC (.str "way")) (mCons (mTup (mCons (mC (.bl true)) (mCons (mC (.int 0)) mNil))) (mCons (mC (.str "")) mNil)))) (mCons (mTup (mCons (mC (.str "way")) (mCons (mVar 3) (mCons (mB dAddX (mVarS 4) (mC (.str " "))) mNil)))) (mCons (mC (.str "RU")) mNil)))))) mNil))))))))
abbrev sg__law_bad_way : Sg := ⟨[1, 0], [some 1, none], 0⟩
def F__law_bad_way : List D → FRes := runF 6 [some 1, none] m__law_bad_way
def m__law_caught : SM := (mSeq (mPar 2 3 (mCons (mC .non) (mCons (m1 dRepr (mVar 1)) mNil)))
  (mSeq (mTry [0, 0, 0, 0, 0, 0] 4 2 (mIf (mB (eqD false) (mVar 0) (mC (.int 0))) (mCall F_boxes_below [0] (mCons (mB dIx (mVar 1) (mC (.int 0))) mNil)) (mCall F_ways_by_boxes [0, 1] (mCons (mB dIx (mVar 1) (mC (.int 0))) (mCons (mB dIx (mVar 1) (mC (.int 1))) mNil)))))
  (mSeq (mIfS (mOr (mB dIsN (mVar 2) (mC .non)) (mB (eqD true) (m1 dRepr (mVar 1)) (mVarS 3))) (mRet [none, none] (mC (.str "none"))) mPass)
  (mSeq (mSet 5 (mLst (mCons (m1 (dIsX "InvalidWay") (mVar 2)) (mCons (m1 (dIsX "InvalidNumber") (mVar 2)) mNil))))
  (mRet [none, none] (m1 dRepr (mB dCat (mVar 5) (mLst (mCons (m1 dVal (mVar 2)) mNil)))))))))
abbrev sg__law_caught : Sg := ⟨[0, 0], [none, none], 0⟩
def F__law_caught : List D → FRes := runF 6 [none, none] m__law_caught
def m__law_below : SM := (mSeq (mAsg (mTup (mCons (mC (.int 0)) (mCons (mC (.int 0)) mNil))) (mgTup 2 (gCons (gSet 1) (gCons (gSet 2) gNil))))
  (mSeq (mFor (mIt dItems (mVarS 0)) (gSet 3) (mPar 1 2 (mCons (mB dAddX (mVarS 1) (mB dMulX (mVarS 2) (m1 dInt (mB (eqD false) (mVarS 3) (mC (.str "R")))))) (mCons (mB dAddX (mVarS 2) (m1 dInt (mB (eqD false) (mVarS 3) (mC (.str "U"))))) mNil))))
  (mRet [none] (mVarS 1))))
abbrev sg__law_below : Sg := ⟨[0], [none], 0⟩
def F__law_below : List D → FRes := runF 4 [none] m__law_below
def m__law_times : SM := (mSeq (mSet 2 (mB dCat (mVar 0) (mB dRep (mLst (mCons (mC (.int 0)) mNil)) (mVarS 1))))
  (mRet [none, none] (mLc (mIt dLst (mVar 2)) (mgTup 2 (gCons (gSet 3) (gCons (gSet 4) gNil))) (mC (.bl true)) (mB dSub (mVar 4) (mIf (mAnd (mB dGe (mVarS 3) (mVarS 1)) (mB dLt (mB dSub (mVarS 3) (mVarS 1)) (m1 dLen (mVar 0)))) (mB dIx (mVar 0) (mB dSub (mVarS 3) (mVarS 1))) (mC (.int 0)))) [3, 4])))
abbrev sg__law_times : Sg := ⟨[0, 0], [none, none], 0⟩
def F__law_times : List D → FRes := runF 5 [none, none] m__law_times
def m_law : SM := (mSeq (mFor (mRng1 (mC (.int 4))) (gSet 1) (mSeq (mSet 2 (mCall F__law_generator [0, 1] (mCons (mVar 0) (mCons (mVarS 1) mNil))))
  (mSeq (mSet 3 (mB dJoin (mS (mC (.str ""))) (mLc (mRng1 (mCallR F__law_random [0, 1] 2 0 (mCons (mMove 2) (mCons (mC (.int 13)) mNil)))) (gSet 17) (mC (.bl true)) (mCallR F__law_pick [0, 1] 2 0 (mCons (mMove 2) (mCons (mLst (mCons (mC (.str "R")) (mCons (mC (.str "U")) mNil))) mNil))) [17])))
  (mSeq (mAsg (mTup (mCons (mTup (mCons (mC (.str "way")) (mCons (mTup (mCons (mC (.int 0)) (mCons (mC (.int 0)) mNil))) (mCons (mVarS 3) mNil)))) (mCons (mCall F__law_below [0] (mCons (mVarS 3) mNil)) mNil))) (mgTup 2 (gCons (gSet 4) (gCons (gSet 5) gNil))))
  (mSeq (mIfS (mNot (mCall (F__law_exact 8) [0, 1] (mCons (mLst (mCons (mVarS 5) (mCons (mVarS 5) mNil))) (mCons (mLst (mCons (mCall F_boxes_below [0] (mCons (mVar 4) mNil)) (mCons (mCall F_boxes_below [0] (mCons (mVar 4) mNil)) mNil))) mNil)))) (mRet [] (mC (.bl false))) mPass)
  (mSeq (mPar 6 7 (mCons (mCallR F__law_random [0, 1] 2 0 (mCons (mMove 2) (mCons (mC (.int 7)) mNil))) (mCons (mCallR F__law_random [0, 1] 2 0 (mCons (mMove 2) (mCons (mC (.int 7)) mNil))) mNil)))
  (mSeq (mSet 8 (mLc (mIt dItems (mCall F__law_words [0, 1] (mCons (mVarS 6) (mCons (mVarS 7) mNil)))) (gSet 15) (mC (.bl true)) (mCall F__law_below [0] (mCons (mVar 15) mNil)) [15]))
  (mSeq (mSet 5 (mLc (mRng1 (mB dAddX (mB dMulX (mVarS 6) (mVarS 7)) (mC (.int 1)))) (gSet 16) (mC (.bl true)) (m1 dLen (mLc (mIt dItems (mVar 8)) (gSet 15) (mB (eqD false) (mVar 15) (mVarS 16)) (mVar 15) [15])) [16]))
  (mSeq (mSet 9 (mCall F_ways_by_boxes [0, 1] (mCons (mVarS 6) (mCons (mVarS 7) mNil))))
  (mSeq (mIfS (mOr (mNot (mCall (F__law_exact 8) [0, 1] (mCons (mLst (mCons (mVar 5) (mCons (mVar 5) (mCons (mVar 5) (mCons (m1 dRev (mVar 5)) mNil))))) (mCons (mLst (mCons (mVar 9) (mCons (mCall F_ways_by_boxes [1, 0] (mCons (mVarS 7) (mCons (mVarS 6) mNil))) (mCons (mCall F_ways_by_boxes [0, 1] (mCons (mVarS 7) (mCons (mVarS 6) mNil))) (mCons (mVar 5) mNil))))) mNil)))) (mNot (mCallR F__law_own [0, 1, 2] 2 0 (mCons (mMove 2) (mCons (mMove 9) (mCons (mLst mNil) mNil)))))) (mRet [] (mC (.bl false))) mPass)
  (mSeq (mIfS (mOr (mB (eqD true) (m1 dSum (mVar 5)) (mCall F__law_chosen [0, 1] (mCons (mB dAddX (mVarS 6) (mVarS 7)) (mCons (mVarS 7) mNil)))) (mB (eqD true) (mLc (mRng2 (mC (.int 1)) (mB dAddX (mB dDiv (m1 dLen (mVar 5)) (mC (.int 2))) (mC (.int 1)))) (gSet 19) (mB dLt (mB dIx (mVar 5) (mVarS 19)) (mB dIx (mVar 5) (mB dSub (mVarS 19) (mC (.int 1))))) (mVarS 19) [19]) (mLst mNil))) (mRet [] (mC (.bl false))) mPass)
  (mSeq (mPar 10 11 (mCons (mVar 5) (mCons (mLst (mCons (mC (.int 1)) mNil)) mNil)))
  (mSeq (mFor (mRng2 (mC (.int 1)) (mB dAddX (mVarS 7) (mC (.int 1)))) (gSet 12) (mPar 10 11 (mCons (mCall F__law_times [0, 1] (mCons (mVar 10) (mCons (mVarS 12) mNil))) (mCons (mCall F__law_times [0, 1] (mCons (mVar 11) (mCons (mB dAddX (mVarS 6) (mVarS 12)) mNil))) mNil))))
  (mSeq (mIfS (mB (eqD true) (mVar 10) (mVar 11)) (mRet [] (mC (.bl false))) mPass)
  (mSeq (mSet 13 (mLst mNil))
  (mSeq (mFor (mIt dItems (mLst (mCons (mC .non) (mCons (mB dSub (mC (.int 0)) (mC (.int 1))) (mCons (mC (.int 7)) (mCons (mC (.bl true)) (mCons (mC (.str "3")) (mCons (mLst (mCons (mC (.int 3)) mNil)) mNil)))))))) (gSet 14) (mSet 13 (mB dCat (mSee 13) (mLst (mCons (mTup (mCons (mC (.int 1)) (mCons (mTup (mCons (mVar 14) (mCons (mC (.str "z")) mNil))) (mCons (mLst (mCons (mC (.bl false)) (mCons (mC (.bl true)) (mCons (mVar 14) mNil)))) mNil)))) (mCons (mTup (mCons (mC (.int 1)) (mCons (mTup (mCons (mVar 14) (mCons (mVarS 7) mNil))) (mCons (mLst (mCons (mC (.bl false)) (mCons (mC (.bl true)) (mCons (mVar 14) mNil)))) mNil)))) (mCons (mTup (mCons (mC (.int 1)) (mCons (mTup (mCons (mVarS 6) (mCons (mVar 14) mNil))) (mCons (mLst (mCons (mC (.bl false)) (mCons (mC (.bl true)) (mCons (mVar 14) mNil)))) mNil)))) mNil)))))))
  (mSeq (mFor (mIt dItems (mLst (mCons (mCallR F__law_bad_way [0, 1] 2 0 (mCons (mMove 2) (mCons (mVar 4) mNil))) (mCons (mCallR F__law_bad_way [0, 1] 2 0 (mCons (mMove 2) (mCons (mVar 4) mNil))) (mCons (mTup (mCons (mC (.str "way")) (mCons (mTup (mCons (mC (.int 1)) (mCons (mC (.int 0)) mNil))) (mCons (mC (.str "R")) mNil)))) (mCons (mTup (mCons (mC (.str "way")) (mCons (mTup (mCons (mC (.int 0)) (mCons (mC (.int 1)) mNil))) (mCons (mC (.str "")) mNil)))) mNil)))))) (gSet 14) (mDrop (mAppend 13 (mTup (mCons (mC (.int 0)) (mCons (mTup (mCons (mVar 14) mNil)) (mCons (mLst (mCons (mC (.bl true)) (mCons (mC (.bl false)) (mCons (mVar 14) mNil)))) mNil)))))))
  (mIfS (mB (eqD true) (mLc (mIt dItems (mSee 13)) (gSet 18) (mB (eqD true) (mCall F__law_caught [0, 1] (mCons (mB dIx (mVar 18) (mC (.int 0))) (mCons (mB dIx (mVar 18) (mC (.int 1))) mNil))) (m1 dRepr (mB dIx (mVar 18) (mC (.int 2))))) (mVar 18) [18]) (mLst mNil)) (mRet [] (mC (.bl false))) mPass))))))))))))))))))
  (mRet [] (mAnd (mB (eqD false) (mB dIx (mCall F_ways_by_boxes [0, 1] (mCons (mC (.int 6)) (mCons (mC (.int 6)) mNil))) (mC (.int 18))) (mC (.int 58))) (mB (eqD false) (m1 dSum (mCall F_ways_by_boxes [0, 1] (mCons (mC (.int 6)) (mCons (mC (.int 6)) mNil)))) (mC (.int 924))))))
abbrev sg_law : Sg := ⟨[0], [], 0⟩
def F_law : List D → FRes := runF 20 [] m_law
/-! ### what the written part says -/
structure Ad where
  a_is_whole : Addr
  d_is_whole : FuncData
  a_is_place : Addr
  d_is_place : FuncData
  a_end_of : Addr
  d_end_of : FuncData
  a_is_way_by : Addr
  d_is_way_by : FuncData
  a_words_with : Addr
  d_words_with : FuncData
  a_check_side : Addr
  d_check_side : FuncData
  a_check_from : Addr
  d_check_from : FuncData
  a_boxes_by : Addr
  d_boxes_by : FuncData
  a_boxes_below : Addr
  d_boxes_below : FuncData
  a_ways_by_boxes : Addr
  d_ways_by_boxes : FuncData
  a__law_hash : Addr
  d__law_hash : FuncData
  a__law_random : Addr
  d__law_random : FuncData
  a__law_cell : Addr
  d__law_cell : FuncData
  a__law_generator : Addr
  d__law_generator : FuncData
  a__law_pick : Addr
  d__law_pick : FuncData
  a__law_exact : Addr
  d__law_exact : FuncData
  a__law_lists : Addr
  d__law_lists : FuncData
  a__law_own : Addr
  d__law_own : FuncData
  a__law_words : Addr
  d__law_words : FuncData
  a__law_chosen : Addr
  d__law_chosen : FuncData
  a__law_bad_way : Addr
  d__law_bad_way : FuncData
  a__law_caught : Addr
  d__law_caught : FuncData
  a__law_below : Addr
  d__law_below : FuncData
  a__law_times : Addr
  d__law_times : FuncData
  a_law : Addr
  d_law : FuncData
  bD : Addr
  bI : Addr
  c_InvalidNumber : Addr
  c_InvalidWay : Addr
def fnT (A : Ad) (x : Str) : Option Addr :=  none
def clT (A : Ad) (x : Str) : Option Addr := if x = "InvalidNumber" then some A.c_InvalidNumber else if x = "InvalidWay" then some A.c_InvalidWay else none
abbrev GG (K : PySem.W.Frag) (A : Ad) (cl : Addr → Nat → List V → Prop) : GI := mkG K (fnT A) (clT A) cl
structure Txt (P : Program) (w : World) (K : PySem.W.Frag) (mg : Str → Option Value) (A : Ad) : Prop where
  g_is_whole : mg "is_whole" = some (.ref A.a_is_whole)
  F_is_whole : Fun K "is_whole" "is_whole" s_is_whole A.a_is_whole A.d_is_whole
  g_is_place : mg "is_place" = some (.ref A.a_is_place)
  F_is_place : Fun K "is_place" "is_place" s_is_place A.a_is_place A.d_is_place
  g_end_of : mg "end_of" = some (.ref A.a_end_of)
  F_end_of : Fun K "end_of" "end_of" s_end_of A.a_end_of A.d_end_of
  g_is_way_by : mg "is_way_by" = some (.ref A.a_is_way_by)
  F_is_way_by : Fun K "is_way_by" "is_way_by" s_is_way_by A.a_is_way_by A.d_is_way_by
  g_words_with : mg "words_with" = some (.ref A.a_words_with)
  F_words_with : Fun K "words_with" "words_with" s_words_with A.a_words_with A.d_words_with
  g_check_side : mg "check_side" = some (.ref A.a_check_side)
  F_check_side : Fun K "check_side" "check_side" s_check_side A.a_check_side A.d_check_side
  g_check_from : mg "check_from" = some (.ref A.a_check_from)
  F_check_from : Fun K "check_from" "check_from" s_check_from A.a_check_from A.d_check_from
  g_boxes_by : mg "boxes_by" = some (.ref A.a_boxes_by)
  F_boxes_by : Fun K "boxes_by" "boxes_by" s_boxes_by A.a_boxes_by A.d_boxes_by
  g_boxes_below : mg "boxes_below" = some (.ref A.a_boxes_below)
  F_boxes_below : Fun K "boxes_below" "boxes_below" s_boxes_below A.a_boxes_below A.d_boxes_below
  g_ways_by_boxes : mg "ways_by_boxes" = some (.ref A.a_ways_by_boxes)
  F_ways_by_boxes : Fun K "ways_by_boxes" "ways_by_boxes" s_ways_by_boxes A.a_ways_by_boxes A.d_ways_by_boxes
  g__law_hash : mg "_law_hash" = some (.ref A.a__law_hash)
  F__law_hash : Fun K "_law_hash" "_law_hash" s__law_hash A.a__law_hash A.d__law_hash
  g__law_random : mg "_law_random" = some (.ref A.a__law_random)
  F__law_random : Fun K "_law_random" "_law_random" s__law_random A.a__law_random A.d__law_random
  g__law_cell : mg "_law_cell" = some (.ref A.a__law_cell)
  F__law_cell : Fun K "_law_cell" "_law_cell" s__law_cell A.a__law_cell A.d__law_cell
  g__law_generator : mg "_law_generator" = some (.ref A.a__law_generator)
  F__law_generator : Fun K "_law_generator" "_law_generator" s__law_generator A.a__law_generator A.d__law_generator
  g__law_pick : mg "_law_pick" = some (.ref A.a__law_pick)
  F__law_pick : Fun K "_law_pick" "_law_pick" s__law_pick A.a__law_pick A.d__law_pick
  g__law_exact : mg "_law_exact" = some (.ref A.a__law_exact)
  F__law_exact : Fun K "_law_exact" "_law_exact" s__law_exact A.a__law_exact A.d__law_exact
  g__law_lists : mg "_law_lists" = some (.ref A.a__law_lists)
  F__law_lists : Fun K "_law_lists" "_law_lists" s__law_lists A.a__law_lists A.d__law_lists
  g__law_own : mg "_law_own" = some (.ref A.a__law_own)
  F__law_own : Fun K "_law_own" "_law_own" s__law_own A.a__law_own A.d__law_own
  g__law_words : mg "_law_words" = some (.ref A.a__law_words)
  F__law_words : Fun K "_law_words" "_law_words" s__law_words A.a__law_words A.d__law_words
  g__law_chosen : mg "_law_chosen" = some (.ref A.a__law_chosen)
  F__law_chosen : Fun K "_law_chosen" "_law_chosen" s__law_chosen A.a__law_chosen A.d__law_chosen
  g__law_bad_way : mg "_law_bad_way" = some (.ref A.a__law_bad_way)
  F__law_bad_way : Fun K "_law_bad_way" "_law_bad_way" s__law_bad_way A.a__law_bad_way A.d__law_bad_way
  g__law_caught : mg "_law_caught" = some (.ref A.a__law_caught)
  F__law_caught : Fun K "_law_caught" "_law_caught" s__law_caught A.a__law_caught A.d__law_caught
  g__law_below : mg "_law_below" = some (.ref A.a__law_below)
  F__law_below : Fun K "_law_below" "_law_below" s__law_below A.a__law_below A.d__law_below
  g__law_times : mg "_law_times" = some (.ref A.a__law_times)
  F__law_times : Fun K "_law_times" "_law_times" s__law_times A.a__law_times A.d__law_times
  g_law : mg "law" = some (.ref A.a_law)
  F_law : Fun K "law" "law" s_law A.a_law A.d_law
  b_all : mg "all" = none
  b_bool : mg "bool" = none
  b_enumerate : mg "enumerate" = none
  b_int : mg "int" = none
  b_isinstance : mg "isinstance" = none
  b_len : mg "len" = none
  b_list : mg "list" = none
  b_max : mg "max" = none
  b_min : mg "min" = none
  b_range : mg "range" = none
  b_repr : mg "repr" = none
  b_str : mg "str" = none
  b_sum : mg "sum" = none
  b_tuple : mg "tuple" = none
  c_MOST_PLACE : ∃ u, mg "MOST_PLACE" = some u ∧ RelV (.int 12) u
  c_MOST_SIDE : ∃ u, mg "MOST_SIDE" = some u ∧ RelV (.int 6) u
  c_MOST_STEPS : ∃ u, mg "MOST_STEPS" = some u ∧ RelV (.int 12) u
  box : PySem.BoxX.BaseTxt K P A.bD A.bI
  k_BoxError : mg "BoxError" = some (.ref A.bD)
  k_InvalidNumber : mg "InvalidNumber" = some (.ref A.c_InvalidNumber)
  kt_InvalidNumber : PySem.BoxX.ClsTxt K A.bD A.bI A.c_InvalidNumber
  nk_InvalidNumber : PySem.W.kitOne K (.type "NoneType") (.ref A.c_InvalidNumber) = some false
  ec_InvalidNumber : ExcC K A.c_InvalidNumber
  k_InvalidWay : mg "InvalidWay" = some (.ref A.c_InvalidWay)
  kt_InvalidWay : PySem.BoxX.ClsTxt K A.bD A.bI A.c_InvalidWay
  nk_InvalidWay : PySem.W.kitOne K (.type "NoneType") (.ref A.c_InvalidWay) = some false
  ec_InvalidWay : ExcC K A.c_InvalidWay
  q_InvalidNumber_InvalidNumber : PySem.W.kitOne K (.ref A.c_InvalidNumber) (.ref A.c_InvalidNumber) = some (("InvalidNumber" : Str) == "InvalidNumber")
  q_InvalidNumber_InvalidWay : PySem.W.kitOne K (.ref A.c_InvalidNumber) (.ref A.c_InvalidWay) = some (("InvalidNumber" : Str) == "InvalidWay")
  q_InvalidWay_InvalidNumber : PySem.W.kitOne K (.ref A.c_InvalidWay) (.ref A.c_InvalidNumber) = some (("InvalidWay" : Str) == "InvalidNumber")
  q_InvalidWay_InvalidWay : PySem.W.kitOne K (.ref A.c_InvalidWay) (.ref A.c_InvalidWay) = some (("InvalidWay" : Str) == "InvalidWay")
section
variable {P : Program} {w : World} {K : PySem.W.Frag} {mg : Str → Option Value} {base : Heap} {A : Ad} {cl : Addr → Nat → List V → Prop}
theorem clT_cases {c : Str} {C : Addr} (h : clT A c = some C) : (c = "InvalidNumber" ∧ C = A.c_InvalidNumber) ∨ (c = "InvalidWay" ∧ C = A.c_InvalidWay) := by
  unfold clT at h
  split at h
  · rename_i q; cases h; exact .inl ⟨q, rfl⟩
  · skip
    split at h
    · rename_i q; cases h; exact .inr (⟨q, rfl⟩)
    · cases h
theorem cl_InvalidNumber (T : Txt P w K mg A) : (GG K A cl).cls "InvalidNumber" = some A.c_InvalidNumber := rfl
theorem cl_InvalidWay (T : Txt P w K mg A) : (GG K A cl).cls "InvalidWay" = some A.c_InvalidWay := rfl
theorem xf_all (T : Txt P w K mg A) : ∀ c C, clT A c = some C → XfC K C ∧ PySem.W.findIn K (.ref C) "value" = some none := fun c C h => by
  rcases clT_cases h with ⟨rfl, rfl⟩ | ⟨rfl, rfl⟩
  · exact ⟨⟨T.kt_InvalidNumber.ga, T.kt_InvalidNumber.gg, T.kt_InvalidNumber.ox.exC, T.kt_InvalidNumber.hd⟩, T.kt_InvalidNumber.no⟩
  · exact ⟨⟨T.kt_InvalidWay.ga, T.kt_InvalidWay.gg, T.kt_InvalidWay.ox.exC, T.kt_InvalidWay.hd⟩, T.kt_InvalidWay.no⟩
theorem te_all (T : Txt P w K mg A) : ∀ c C, clT A c = some C → PySem.W.exmOne K (.ref C) (.ref A.bD) = some true := fun c C h => by
  rcases clT_cases h with ⟨rfl, rfl⟩ | ⟨rfl, rfl⟩
  · exact T.kt_InvalidNumber.te
  · exact T.kt_InvalidWay.te
theorem is_InvalidNumber (T : Txt P w K mg A) : ∀ c C, clT A c = some C → ExcC K C ∧ PySem.W.kitOne K (.ref C) (.ref A.c_InvalidNumber) = some (c == "InvalidNumber") := fun c C h => by
  rcases clT_cases h with ⟨rfl, rfl⟩ | ⟨rfl, rfl⟩
  · exact ⟨T.ec_InvalidNumber, T.q_InvalidNumber_InvalidNumber⟩
  · exact ⟨T.ec_InvalidWay, T.q_InvalidWay_InvalidNumber⟩
theorem is_InvalidWay (T : Txt P w K mg A) : ∀ c C, clT A c = some C → ExcC K C ∧ PySem.W.kitOne K (.ref C) (.ref A.c_InvalidWay) = some (c == "InvalidWay") := fun c C h => by
  rcases clT_cases h with ⟨rfl, rfl⟩ | ⟨rfl, rfl⟩
  · exact ⟨T.ec_InvalidNumber, T.q_InvalidNumber_InvalidWay⟩
  · exact ⟨T.ec_InvalidWay, T.q_InvalidWay_InvalidWay⟩
theorem sc_is_whole : FnScope ["value"] ["value"] (defScope s_is_whole) := ⟨rfl, rfl, rfl, by decide +kernel, rfl, by decide +kernel, by decide +kernel⟩
theorem sc_is_place : FnScope ["value"] ["value"] (defScope s_is_place) := ⟨rfl, rfl, rfl, by decide +kernel, rfl, by decide +kernel, by decide +kernel⟩
theorem sc_end_of : FnScope ["way"] ["way"] (defScope s_end_of) := ⟨rfl, rfl, rfl, by decide +kernel, rfl, by decide +kernel, by decide +kernel⟩
theorem sc_is_way_by : FnScope ["value", "sign"] ["value"] (defScope s_is_way_by) := ⟨rfl, rfl, rfl, by decide +kernel, rfl, by decide +kernel, by decide +kernel⟩
theorem sc_words_with : FnScope ["rights", "ups", "found", "_", "late", "word", "right", "up"] ["rights", "ups"] (defScope s_words_with) := ⟨rfl, rfl, rfl, by decide +kernel, rfl, by decide +kernel, by decide +kernel⟩
theorem sc_check_side : FnScope ["number"] ["number"] (defScope s_check_side) := ⟨rfl, rfl, rfl, by decide +kernel, rfl, by decide +kernel, by decide +kernel⟩
theorem sc_check_from : FnScope ["way"] ["way"] (defScope s_check_from) := ⟨rfl, rfl, rfl, by decide +kernel, rfl, by decide +kernel, by decide +kernel⟩
theorem sc_boxes_by : FnScope ["word", "found", "height", "sign"] ["word"] (defScope s_boxes_by) := ⟨rfl, rfl, rfl, by decide +kernel, rfl, by decide +kernel, by decide +kernel⟩
theorem sc_boxes_below : FnScope ["way"] ["way"] (defScope s_boxes_below) := ⟨rfl, rfl, rfl, by decide +kernel, rfl, by decide +kernel, by decide +kernel⟩
theorem sc_ways_by_boxes : FnScope ["right", "up", "found", "word"] ["right", "up"] (defScope s_ways_by_boxes) := ⟨rfl, rfl, rfl, by decide +kernel, rfl, by decide +kernel, by decide +kernel⟩
theorem sc__law_hash : FnScope ["seed", "index", "mixed"] ["seed", "index"] (defScope s__law_hash) := ⟨rfl, rfl, rfl, by decide +kernel, rfl, by decide +kernel, by decide +kernel⟩
theorem sc__law_random : FnScope ["generator", "bound", "drawn", "turn"] ["generator", "bound"] (defScope s__law_random) := ⟨rfl, rfl, rfl, by decide +kernel, rfl, by decide +kernel, by decide +kernel⟩
theorem sc__law_cell : FnScope ["script", "index"] ["script", "index"] (defScope s__law_cell) := ⟨rfl, rfl, rfl, by decide +kernel, rfl, by decide +kernel, by decide +kernel⟩
theorem sc__law_generator : FnScope ["script", "index", "seed"] ["script", "index"] (defScope s__law_generator) := ⟨rfl, rfl, rfl, by decide +kernel, rfl, by decide +kernel, by decide +kernel⟩
theorem sc__law_pick : FnScope ["generator", "things"] ["generator", "things"] (defScope s__law_pick) := ⟨rfl, rfl, rfl, by decide +kernel, rfl, by decide +kernel, by decide +kernel⟩
theorem sc__law_exact : FnScope ["due", "told", "at"] ["due", "told"] (defScope s__law_exact) := ⟨rfl, rfl, rfl, by decide +kernel, rfl, by decide +kernel, by decide +kernel⟩
theorem sc__law_lists : FnScope ["thing", "found", "part"] ["thing"] (defScope s__law_lists) := ⟨rfl, rfl, rfl, by decide +kernel, rfl, by decide +kernel, by decide +kernel⟩
theorem sc__law_own : FnScope ["generator", "told", "given", "kept", "some", "turn", "one"] ["generator", "told", "given"] (defScope s__law_own) := ⟨rfl, rfl, rfl, by decide +kernel, rfl, by decide +kernel, by decide +kernel⟩
theorem sc__law_words : FnScope ["rights", "ups", "found", "turn", "late", "word", "right", "up"] ["rights", "ups"] (defScope s__law_words) := ⟨rfl, rfl, rfl, by decide +kernel, rfl, by decide +kernel, by decide +kernel⟩
theorem sc__law_chosen : FnScope ["many", "some", "found", "at"] ["many", "some"] (defScope s__law_chosen) := ⟨rfl, rfl, rfl, by decide +kernel, rfl, by decide +kernel, by decide +kernel⟩
theorem sc__law_bad_way : FnScope ["generator", "way", "word", "start", "steps", "odd"] ["generator", "way"] (defScope s__law_bad_way) := ⟨rfl, rfl, rfl, by decide +kernel, rfl, by decide +kernel, by decide +kernel⟩
theorem sc__law_caught : FnScope ["door", "args", "caught", "kept", "error", "kinds"] ["door", "args"] (defScope s__law_caught) := ⟨rfl, rfl, rfl, by decide +kernel, rfl, by decide +kernel, by decide +kernel⟩
theorem sc__law_below : FnScope ["word", "found", "height", "sign"] ["word"] (defScope s__law_below) := ⟨rfl, rfl, rfl, by decide +kernel, rfl, by decide +kernel, by decide +kernel⟩
theorem sc__law_times : FnScope ["numbers", "power", "found", "at", "one"] ["numbers", "power"] (defScope s__law_times) := ⟨rfl, rfl, rfl, by decide +kernel, rfl, by decide +kernel, by decide +kernel⟩
theorem sc_law : FnScope ["script", "index", "generator", "word", "way", "due", "right", "up", "counts", "told", "first", "second", "power", "asks", "wrong", "one", "boxes", "turn", "ask", "at"] ["script"] (defScope s_law) := ⟨rfl, rfl, rfl, by decide +kernel, rfl, by decide +kernel, by decide +kernel⟩
theorem kb_is_whole_1 (T : Txt P w K mg A) : KB K A.d_is_whole ["value"] 1 [] [0] := kb_of T.F_is_whole fun _ _ _ _ _ _ us ws h1 h2 => match us, ws, h1, h2 with | [_], [], _, _ => rfl
theorem kb_is_place_1 (T : Txt P w K mg A) : KB K A.d_is_place ["value"] 1 [] [0] := kb_of T.F_is_place fun _ _ _ _ _ _ us ws h1 h2 => match us, ws, h1, h2 with | [_], [], _, _ => rfl
theorem kb_end_of_1 (T : Txt P w K mg A) : KB K A.d_end_of ["way"] 1 [] [0] := kb_of T.F_end_of fun _ _ _ _ _ _ us ws h1 h2 => match us, ws, h1, h2 with | [_], [], _, _ => rfl
theorem kb_is_way_by_1 (T : Txt P w K mg A) : KB K A.d_is_way_by ["value"] 1 [] [0] := kb_of T.F_is_way_by fun _ _ _ _ _ _ us ws h1 h2 => match us, ws, h1, h2 with | [_], [], _, _ => rfl
theorem kb_words_with_2 (T : Txt P w K mg A) : KB K A.d_words_with ["rights", "ups"] 2 [] [0, 1] := kb_of T.F_words_with fun _ _ _ _ _ _ us ws h1 h2 => match us, ws, h1, h2 with | [_, _], [], _, _ => rfl
theorem kb_check_side_1 (T : Txt P w K mg A) : KB K A.d_check_side ["number"] 1 [] [0] := kb_of T.F_check_side fun _ _ _ _ _ _ us ws h1 h2 => match us, ws, h1, h2 with | [_], [], _, _ => rfl
theorem kb_check_from_1 (T : Txt P w K mg A) : KB K A.d_check_from ["way"] 1 [] [0] := kb_of T.F_check_from fun _ _ _ _ _ _ us ws h1 h2 => match us, ws, h1, h2 with | [_], [], _, _ => rfl
theorem kb_boxes_by_1 (T : Txt P w K mg A) : KB K A.d_boxes_by ["word"] 1 [] [0] := kb_of T.F_boxes_by fun _ _ _ _ _ _ us ws h1 h2 => match us, ws, h1, h2 with | [_], [], _, _ => rfl
theorem kb_boxes_below_0_way (T : Txt P w K mg A) : KB K A.d_boxes_below ["way"] 0 ["way"] [0] := kb_of T.F_boxes_below fun _ _ _ _ _ _ us ws h1 h2 => match us, ws, h1, h2 with | [], [_], _, _ => rfl
theorem kb_boxes_below_1 (T : Txt P w K mg A) : KB K A.d_boxes_below ["way"] 1 [] [0] := kb_of T.F_boxes_below fun _ _ _ _ _ _ us ws h1 h2 => match us, ws, h1, h2 with | [_], [], _, _ => rfl
theorem kb_ways_by_boxes_0_up_right (T : Txt P w K mg A) : KB K A.d_ways_by_boxes ["right", "up"] 0 ["up", "right"] [1, 0] := kb_of T.F_ways_by_boxes fun _ _ _ _ _ _ us ws h1 h2 => match us, ws, h1, h2 with | [], [_, _], _, _ => rfl
theorem kb_ways_by_boxes_2 (T : Txt P w K mg A) : KB K A.d_ways_by_boxes ["right", "up"] 2 [] [0, 1] := kb_of T.F_ways_by_boxes fun _ _ _ _ _ _ us ws h1 h2 => match us, ws, h1, h2 with | [_, _], [], _, _ => rfl
theorem kb_law_hash_2 (T : Txt P w K mg A) : KB K A.d__law_hash ["seed", "index"] 2 [] [0, 1] := kb_of T.F__law_hash fun _ _ _ _ _ _ us ws h1 h2 => match us, ws, h1, h2 with | [_, _], [], _, _ => rfl
theorem kb_law_random_2 (T : Txt P w K mg A) : KB K A.d__law_random ["generator", "bound"] 2 [] [0, 1] := kb_of T.F__law_random fun _ _ _ _ _ _ us ws h1 h2 => match us, ws, h1, h2 with | [_, _], [], _, _ => rfl
theorem kb_law_cell_2 (T : Txt P w K mg A) : KB K A.d__law_cell ["script", "index"] 2 [] [0, 1] := kb_of T.F__law_cell fun _ _ _ _ _ _ us ws h1 h2 => match us, ws, h1, h2 with | [_, _], [], _, _ => rfl
theorem kb_law_generator_2 (T : Txt P w K mg A) : KB K A.d__law_generator ["script", "index"] 2 [] [0, 1] := kb_of T.F__law_generator fun _ _ _ _ _ _ us ws h1 h2 => match us, ws, h1, h2 with | [_, _], [], _, _ => rfl
theorem kb_law_pick_2 (T : Txt P w K mg A) : KB K A.d__law_pick ["generator", "things"] 2 [] [0, 1] := kb_of T.F__law_pick fun _ _ _ _ _ _ us ws h1 h2 => match us, ws, h1, h2 with | [_, _], [], _, _ => rfl
theorem kb_law_exact_2 (T : Txt P w K mg A) : KB K A.d__law_exact ["due", "told"] 2 [] [0, 1] := kb_of T.F__law_exact fun _ _ _ _ _ _ us ws h1 h2 => match us, ws, h1, h2 with | [_, _], [], _, _ => rfl
theorem kb_law_lists_1 (T : Txt P w K mg A) : KB K A.d__law_lists ["thing"] 1 [] [0] := kb_of T.F__law_lists fun _ _ _ _ _ _ us ws h1 h2 => match us, ws, h1, h2 with | [_], [], _, _ => rfl
theorem kb_law_own_3 (T : Txt P w K mg A) : KB K A.d__law_own ["generator", "told", "given"] 3 [] [0, 1, 2] := kb_of T.F__law_own fun _ _ _ _ _ _ us ws h1 h2 => match us, ws, h1, h2 with | [_, _, _], [], _, _ => rfl
theorem kb_law_words_2 (T : Txt P w K mg A) : KB K A.d__law_words ["rights", "ups"] 2 [] [0, 1] := kb_of T.F__law_words fun _ _ _ _ _ _ us ws h1 h2 => match us, ws, h1, h2 with | [_, _], [], _, _ => rfl
theorem kb_law_chosen_2 (T : Txt P w K mg A) : KB K A.d__law_chosen ["many", "some"] 2 [] [0, 1] := kb_of T.F__law_chosen fun _ _ _ _ _ _ us ws h1 h2 => match us, ws, h1, h2 with | [_, _], [], _, _ => rfl
theorem kb_law_bad_way_2 (T : Txt P w K mg A) : KB K A.d__law_bad_way ["generator", "way"] 2 [] [0, 1] := kb_of T.F__law_bad_way fun _ _ _ _ _ _ us ws h1 h2 => match us, ws, h1, h2 with | [_, _], [], _, _ => rfl
theorem kb_law_caught_2 (T : Txt P w K mg A) : KB K A.d__law_caught ["door", "args"] 2 [] [0, 1] := kb_of T.F__law_caught fun _ _ _ _ _ _ us ws h1 h2 => match us, ws, h1, h2 with | [_, _], [], _, _ => rfl
theorem kb_law_below_1 (T : Txt P w K mg A) : KB K A.d__law_below ["word"] 1 [] [0] := kb_of T.F__law_below fun _ _ _ _ _ _ us ws h1 h2 => match us, ws, h1, h2 with | [_], [], _, _ => rfl
theorem kb_law_times_2 (T : Txt P w K mg A) : KB K A.d__law_times ["numbers", "power"] 2 [] [0, 1] := kb_of T.F__law_times fun _ _ _ _ _ _ us ws h1 h2 => match us, ws, h1, h2 with | [_, _], [], _, _ => rfl
theorem bt_all : bootBuiltins "all" = some (.builtin "all") := by decide +kernel
theorem bt_bool : bootBuiltins "bool" = some (.type "bool") := by decide +kernel
theorem bt_enumerate : bootBuiltins "enumerate" = some (.type "enumerate") := by decide +kernel
theorem bt_int : bootBuiltins "int" = some (.type "int") := by decide +kernel
theorem bt_isinstance : bootBuiltins "isinstance" = some (.builtin "isinstance") := by decide +kernel
theorem bt_len : bootBuiltins "len" = some (.builtin "len") := by decide +kernel
theorem bt_list : bootBuiltins "list" = some (.type "list") := by decide +kernel
theorem bt_max : bootBuiltins "max" = some (.builtin "max") := by decide +kernel
theorem bt_min : bootBuiltins "min" = some (.builtin "min") := by decide +kernel
theorem bt_range : bootBuiltins "range" = some (.type "range") := by decide +kernel
theorem bt_repr : bootBuiltins "repr" = some (.builtin "repr") := by decide +kernel
theorem bt_str : bootBuiltins "str" = some (.type "str") := by decide +kernel
theorem bt_sum : bootBuiltins "sum" = some (.builtin "sum") := by decide +kernel
theorem bt_tuple : bootBuiltins "tuple" = some (.type "tuple") := by decide +kernel
theorem hu64 {k : Nat} {B : Around} (hr : Room k B) : B.units + 64 < cLine := hr.units
theorem visS {X : Cx} {x : Str} (h : Vis X.env.scope x) : Vis X.env.scope x := h
theorem takesN {X : Cx} : Takes X WN := takes0
theorem ok_is_whole (T : Txt P w K mg A) : FnG P w K mg base (L2.CX P w) 3 A.a_is_whole A.d_is_whole ["value"] (spI (GG K A cl) sg_is_whole F_is_whole) :=
  fn_im (Γ' := [0]) T.F_is_whole sc_is_whole rfl (by decide) (by decide) (.inl (by decide)) (fun cdv B outer s H E hgd hr => by
    have tk : Takes (cxOf (L2.CX P w) P w K mg base ["value"] "is_whole" (defScope s_is_whole) A.a_is_whole cdv B outer s H E) (fun c d _ H => E c d H) := takes_of rfl rfl rfl rfl
    have hW : WFree (fun c d _ H => E c d H) := wfree_of
    have ps : PassesOwn (model P w) (cxOf (L2.CX P w) P w K mg base ["value"] "is_whole" (defScope s_is_whole) A.a_is_whole cdv B outer s H E).A (cxOf (L2.CX P w) P w K mg base ["value"] "is_whole" (defScope s_is_whole) A.a_is_whole cdv B outer s H E).env (cxOf (L2.CX P w) P w K mg base ["value"] "is_whole" (defScope s_is_whole) A.a_is_whole cdv B outer s H E).xe := passes_of rfl
    exact (ss_one (si_ret (ei_and (κ1 := 0) (ei_isi (Ts := "int") rfl (by decide) (by rfl) T.b_isinstance bt_isinstance (by rfl) T.b_int bt_int (oe (xV 0))) (ei_one (ei_not (κ1 := 0) (ei_isi (Ts := "bool") rfl (by decide) (by rfl) T.b_isinstance bt_isinstance (by rfl) T.b_bool bt_bool (oe (xV 0)))))))))
theorem ok_is_place (T : Txt P w K mg A) : FnG P w K mg base (L2.CX P w) 4 A.a_is_place A.d_is_place ["value"] (spI (GG K A cl) sg_is_place F_is_place) :=
  fn_im (Γ' := [0]) T.F_is_place sc_is_place rfl (by decide) (by decide) (.inl (by decide)) (fun cdv B outer s H E hgd hr => by
    have tk : Takes (cxOf (L2.CX P w) P w K mg base ["value"] "is_place" (defScope s_is_place) A.a_is_place cdv B outer s H E) (fun c d _ H => E c d H) := takes_of rfl rfl rfl rfl
    have hW : WFree (fun c d _ H => E c d H) := wfree_of
    have ps : PassesOwn (model P w) (cxOf (L2.CX P w) P w K mg base ["value"] "is_place" (defScope s_is_place) A.a_is_place cdv B outer s H E).A (cxOf (L2.CX P w) P w K mg base ["value"] "is_place" (defScope s_is_place) A.a_is_place cdv B outer s H E).env (cxOf (L2.CX P w) P w K mg base ["value"] "is_place" (defScope s_is_place) A.a_is_place cdv B outer s H E).xe := passes_of rfl
    exact (ss_cons (si_if (ti_of_wi (wi_or (ti_not (ti_val (κ := 0) (ei_isi (Ts := "tuple") rfl (by decide) (by rfl) T.b_isinstance bt_isinstance (by rfl) T.b_tuple bt_tuple (oe (xV 0))))) (wi_or (ti_cmp (op_neD (hu64 hr)) (lk_ne rfl) rfl (oe (ei_b1 call_len (lk_len rfl) (by rfl) T.b_len bt_len (oe (xV 0)))) (oe ei_int)) (wi_or (ti_not (ti_val (κ := 0) (ei_call (sg := sg_is_whole) (ok_is_whole T) hgd (hr.mono (by decide)) (by rfl) T.g_is_whole T.F_is_whole.kp (kb_is_whole_1 T) tk (ci_cons (c1_e (κ := 0) (ei_ix rfl (oe (xV 0)) (oe ei_int) (by intro _ _; rfl))) ci_nil) cm_n))) (wi_or1 (ti_not (ti_val (κ := 0) (ei_call (sg := sg_is_whole) (ok_is_whole T) hgd (hr.mono (by decide)) (by rfl) T.g_is_whole T.F_is_whole.kp (kb_is_whole_1 T) tk (ci_cons (c1_e (κ := 0) (ei_ix rfl (oe (xV 0)) (oe ei_int) (by intro _ _; rfl))) ci_nil) cm_n)))))))) (ss_one (si_ret ei_bl)) ss_nil)
      (ss_one (si_ret (ei_and (κ1 := 0) (ei_chain op_le op_le lk_le lk_le (oe ei_int) (oe (ei_ix rfl (oe (xV 0)) (oe ei_int) (by intro _ _; rfl))) (oe (ei_gc (by rfl) T.c_MOST_PLACE .int))) (ei_one (ei_chain op_le op_le lk_le lk_le (oe ei_int) (oe (ei_ix rfl (oe (xV 0)) (oe ei_int) (by intro _ _; rfl))) (oe (ei_gc (by rfl) T.c_MOST_PLACE .int)))))))))
theorem ok_end_of (T : Txt P w K mg A) : FnG P w K mg base (L2.CX P w) 3 A.a_end_of A.d_end_of ["way"] (spI (GG K A cl) sg_end_of F_end_of) :=
  fn_im (Γ' := [0]) T.F_end_of sc_end_of rfl (by decide) (by decide) (.inl (by decide)) (fun cdv B outer s H E hgd hr => by
    have tk : Takes (cxOf (L2.CX P w) P w K mg base ["way"] "end_of" (defScope s_end_of) A.a_end_of cdv B outer s H E) (fun c d _ H => E c d H) := takes_of rfl rfl rfl rfl
    have hW : WFree (fun c d _ H => E c d H) := wfree_of
    have ps : PassesOwn (model P w) (cxOf (L2.CX P w) P w K mg base ["way"] "end_of" (defScope s_end_of) A.a_end_of cdv B outer s H E).A (cxOf (L2.CX P w) P w K mg base ["way"] "end_of" (defScope s_end_of) A.a_end_of cdv B outer s H E).env (cxOf (L2.CX P w) P w K mg base ["way"] "end_of" (defScope s_end_of) A.a_end_of cdv B outer s H E).xe := passes_of rfl
    exact (ss_one (si_ret (ei_tup (κ := 0) (ai_cons (κ := 0) (ei_bin op_addX lk_addX (oe (ei_ix rfl (oe (ei_ix rfl (oe (xV 0)) (oe ei_int) (by intro _ _; rfl))) (oe ei_int) (by intro _ _; rfl))) (oe (ei_count (oe (ei_ix rfl (oe (xV 0)) (oe ei_int) (by intro _ _; rfl))) (oe ei_str)))) (ai_cons (κ := 0) (ei_bin op_addX lk_addX (oe (ei_ix rfl (oe (ei_ix rfl (oe (xV 0)) (oe ei_int) (by intro _ _; rfl))) (oe ei_int) (by intro _ _; rfl))) (oe (ei_count (oe (ei_ix rfl (oe (xV 0)) (oe ei_int) (by intro _ _; rfl))) (oe ei_str)))) ai_nil))))))
theorem ok_is_way_by (T : Txt P w K mg A) : FnG P w K mg base (L2.CX P w) 5 A.a_is_way_by A.d_is_way_by ["value"] (spI (GG K A cl) sg_is_way_by F_is_way_by) :=
  fn_im (Γ' := [0, 0]) T.F_is_way_by sc_is_way_by rfl (by decide) (by decide) (.inl (by decide)) (fun cdv B outer s H E hgd hr => by
    have tk : Takes (cxOf (L2.CX P w) P w K mg base ["value", "sign"] "is_way_by" (defScope s_is_way_by) A.a_is_way_by cdv B outer s H E) (fun c d _ H => E c d H) := takes_of rfl rfl rfl rfl
    have hW : WFree (fun c d _ H => E c d H) := wfree_of
    have ps : PassesOwn (model P w) (cxOf (L2.CX P w) P w K mg base ["value", "sign"] "is_way_by" (defScope s_is_way_by) A.a_is_way_by cdv B outer s H E).A (cxOf (L2.CX P w) P w K mg base ["value", "sign"] "is_way_by" (defScope s_is_way_by) A.a_is_way_by cdv B outer s H E).env (cxOf (L2.CX P w) P w K mg base ["value", "sign"] "is_way_by" (defScope s_is_way_by) A.a_is_way_by cdv B outer s H E).xe := passes_of rfl
    exact (ss_cons (si_if (ti_of_wi (wi_or (ti_not (ti_val (κ := 0) (ei_isi (Ts := "tuple") rfl (by decide) (by rfl) T.b_isinstance bt_isinstance (by rfl) T.b_tuple bt_tuple (oe (xV 0))))) (wi_or (ti_cmp (op_neD (hu64 hr)) (lk_ne rfl) rfl (oe (ei_b1 call_len (lk_len rfl) (by rfl) T.b_len bt_len (oe (xV 0)))) (oe ei_int)) (wi_or (ti_not (ti_val (κ := 0) (ei_isi (Ts := "str") rfl (by decide) (by rfl) T.b_isinstance bt_isinstance (by rfl) T.b_str bt_str (oe (ei_ix rfl (oe (xV 0)) (oe ei_int) (by intro _ _; rfl)))))) (wi_or1 (ti_cmp (op_neD (hu64 hr)) (lk_ne rfl) rfl (oe (ei_ix rfl (oe (xV 0)) (oe ei_int) (by intro _ _; rfl))) (oe ei_str))))))) (ss_one (si_ret ei_bl)) ss_nil)
      (ss_cons (si_if (ti_of_wi (wi_or (ti_not (ti_val (κ := 0) (ei_call (sg := sg_is_place) (ok_is_place T) hgd (hr.mono (by decide)) (by rfl) T.g_is_place T.F_is_place.kp (kb_is_place_1 T) tk (ci_cons (c1_e (κ := 0) (ei_ix rfl (oe (xV 0)) (oe ei_int) (by intro _ _; rfl))) ci_nil) cm_n))) (wi_or (ti_not (ti_val (κ := 0) (ei_isi (Ts := "str") rfl (by decide) (by rfl) T.b_isinstance bt_isinstance (by rfl) T.b_str bt_str (oe (ei_ix rfl (oe (xV 0)) (oe ei_int) (by intro _ _; rfl)))))) (wi_or1 (ti_cmp op_gt lk_gt rfl (oe (ei_b1 call_len (lk_len rfl) (by rfl) T.b_len bt_len (oe (ei_ix rfl (oe (xV 0)) (oe ei_int) (by intro _ _; rfl))))) (oe (ei_gc (by rfl) T.c_MOST_STEPS .int))))))) (ss_one (si_ret ei_bl)) ss_nil)
      (ss_one (si_ret (ei_and (κ1 := 0) (ei_b1 (cr_all rfl) lk_all (by rfl) T.b_all bt_all (oe (ei_low (κ := 1) (κ' := 0) (ei_lc (own := [("sign", 1)]) rfl sc_is_way_by.nd (ii_any rfl (oi_v (ei_ix rfl (oe (xV 0)) (oe ei_int) (by intro _ _; rfl)))) (blkOk_by (show blkC ["value", "sign"] (defScope s_is_way_by) _ [("sign", 1)] = true by decide +kernel)) (fun _ _ _ _ _ => (tgN 1 sc_is_way_by.nd)) (fun _ _ _ _ _ => tt_nil) (fun _ _ _ _ _ => (ei_cmp op_in_str lk_inS rfl (oe (xS 1)) (oe ei_str))))))) (ei_one (ei_call (sg := sg_is_place) (ok_is_place T) hgd (hr.mono (by decide)) (by rfl) T.g_is_place T.F_is_place.kp (kb_is_place_1 T) tk (ci_cons (c1_e (κ := 0) (ei_call (sg := sg_end_of) (ok_end_of T) hgd (hr.mono (by decide)) (by rfl) T.g_end_of T.F_end_of.kp (kb_end_of_1 T) tk (ci_cons (c1_e (κ := 0) (xV 0)) ci_nil) cm_n)) ci_nil) cm_n))))))))
theorem ok_words_with (T : Txt P w K mg A) : FnG P w K mg base (L2.CX P w) 3 A.a_words_with A.d_words_with ["rights", "ups"] (spI (GG K A cl) sg_words_with F_words_with) :=
  fn_im (Γ' := [0, 0, 0, 0, 0, 0, 0, 0]) T.F_words_with sc_words_with rfl (by decide) (by decide) (.inl (by decide)) (fun cdv B outer s H E hgd hr => by
    have tk : Takes (cxOf (L2.CX P w) P w K mg base ["rights", "ups", "found", "_", "late", "word", "right", "up"] "words_with" (defScope s_words_with) A.a_words_with cdv B outer s H E) (fun c d _ H => E c d H) := takes_of rfl rfl rfl rfl
    have hW : WFree (fun c d _ H => E c d H) := wfree_of
    have ps : PassesOwn (model P w) (cxOf (L2.CX P w) P w K mg base ["rights", "ups", "found", "_", "late", "word", "right", "up"] "words_with" (defScope s_words_with) A.a_words_with cdv B outer s H E).A (cxOf (L2.CX P w) P w K mg base ["rights", "ups", "found", "_", "late", "word", "right", "up"] "words_with" (defScope s_words_with) A.a_words_with cdv B outer s H E).env (cxOf (L2.CX P w) P w K mg base ["rights", "ups", "found", "_", "late", "word", "right", "up"] "words_with" (defScope s_words_with) A.a_words_with cdv B outer s H E).xe := passes_of rfl
    exact (ss_cons (sSet (κ := 0) 2 sc_words_with.nd hW (ei_low (κ := 1) (κ' := 0) (ei_lst (κ := 0) (ai_cons (κ := 0) (ei_tup (κ := 0) (ai_cons (κ := 0) ei_str (ai_cons (κ := 0) (xS 0) (ai_cons (κ := 0) (xS 1) ai_nil)))) ai_nil))))
      (ss_cons (si_for ps rfl hW (ii_rng1 (by rfl) T.b_range (oe (ei_bin op_addX lk_addX (oe (xS 0)) (oe (xS 1))))) (tgN 3 sc_words_with.nd) (ss_cons (sSet (κ := 0) 4 sc_words_with.nd hW (ei_low (κ := 1) (κ' := 0) (ei_lst (κ := 0) ai_nil)))
      (ss_cons (si_for ps rfl hW (ii_any rfl (oi_v (xV 2))) (tg_tup rfl (tgs_cons (tgN 5 sc_words_with.nd) (tgs_cons (tgN 6 sc_words_with.nd) (tgs_cons (tgN 7 sc_words_with.nd) tgs_nil)))) (ss_cons (sSet (κ := 0) 4 sc_words_with.nd hW (ei_low (κ := 1) (κ' := 0) (ei_cat (oi_v (xV 4)) (oi_v (ei_low (κ := 1) (κ' := 0) (ei_if (ti_cmp op_gt lk_gt rfl (oe (xS 6)) (oe ei_int)) (ei_lst (κ := 0) (ai_cons (κ := 0) (ei_tup (κ := 0) (ai_cons (κ := 0) (ei_bin op_addX lk_addX (oe (xS 5)) (oe ei_str)) (ai_cons (κ := 0) (ei_bin op_sub lk_sub (oe (xS 6)) (oe ei_int)) (ai_cons (κ := 0) (xS 7) ai_nil)))) ai_nil)) (ei_lst (κ := 0) ai_nil)))))))
      (ss_one (sSet (κ := 0) 4 sc_words_with.nd hW (ei_low (κ := 1) (κ' := 0) (ei_cat (oi_v (xV 4)) (oi_v (ei_low (κ := 1) (κ' := 0) (ei_if (ti_cmp op_gt lk_gt rfl (oe (xS 7)) (oe ei_int)) (ei_lst (κ := 0) (ai_cons (κ := 0) (ei_tup (κ := 0) (ai_cons (κ := 0) (ei_bin op_addX lk_addX (oe (xS 5)) (oe ei_str)) (ai_cons (κ := 0) (xS 6) (ai_cons (κ := 0) (ei_bin op_sub lk_sub (oe (xS 7)) (oe ei_int)) ai_nil)))) ai_nil)) (ei_lst (κ := 0) ai_nil))))))))))
      (ss_one (sSet (κ := 0) 2 sc_words_with.nd hW (xV 4))))))
      (ss_one (si_ret (ei_low (κ := 1) (κ' := 0) (ei_lc (own := [("word", 5), ("_", 3)]) rfl sc_words_with.nd (ii_any rfl (oi_v (xV 2))) (blkOk_by (show blkC ["rights", "ups", "found", "_", "late", "word", "right", "up"] (defScope s_words_with) _ [("word", 5), ("_", 3)] = true by decide +kernel)) (fun _ _ _ _ _ => (tg_tup rfl (tgs_cons (tgN 5 sc_words_with.nd) (tgs_cons (tgN 3 sc_words_with.nd) (tgs_cons (tgN 3 sc_words_with.nd) tgs_nil))))) (fun _ _ _ _ _ => tt_nil) (fun _ _ _ _ _ => (xS 5)))))))))
theorem ok_check_side (T : Txt P w K mg A) : FnG P w K mg base (L2.CX P w) 4 A.a_check_side A.d_check_side ["number"] (spI (GG K A cl) sg_check_side F_check_side) :=
  fn_im (Γ' := [0]) T.F_check_side sc_check_side rfl (by decide) (by decide) (.inl (by decide)) (fun cdv B outer s H E hgd hr => by
    have tk : Takes (cxOf (L2.CX P w) P w K mg base ["number"] "check_side" (defScope s_check_side) A.a_check_side cdv B outer s H E) (fun c d _ H => E c d H) := takes_of rfl rfl rfl rfl
    have hW : WFree (fun c d _ H => E c d H) := wfree_of
    have ps : PassesOwn (model P w) (cxOf (L2.CX P w) P w K mg base ["number"] "check_side" (defScope s_check_side) A.a_check_side cdv B outer s H E).A (cxOf (L2.CX P w) P w K mg base ["number"] "check_side" (defScope s_check_side) A.a_check_side cdv B outer s H E).env (cxOf (L2.CX P w) P w K mg base ["number"] "check_side" (defScope s_check_side) A.a_check_side cdv B outer s H E).xe := passes_of rfl
    exact (ss_one (si_if (ti_of_wi (wi_or (ti_not (ti_val (κ := 0) (ei_call (sg := sg_is_whole) (ok_is_whole T) hgd (hr.mono (by decide)) (by rfl) T.g_is_whole T.F_is_whole.kp (kb_is_whole_1 T) tk (ci_cons (c1_e (κ := 0) (xV 0)) ci_nil) cm_n))) (wi_or1 (ti_not (ti_chain op_le op_le lk_le lk_le (oe ei_int) (oe (xV 0)) (oe (ei_gc (by rfl) T.c_MOST_SIDE .int))))))) (ss_one (si_raise rfl hW T.box T.kt_InvalidNumber hr T.k_InvalidNumber (cl_InvalidNumber T) rfl tk (xV 0))) ss_nil)))
theorem ok_check_from (T : Txt P w K mg A) : FnG P w K mg base (L2.CX P w) 6 A.a_check_from A.d_check_from ["way"] (spI (GG K A cl) sg_check_from F_check_from) :=
  fn_im (Γ' := [0]) T.F_check_from sc_check_from rfl (by decide) (by decide) (.inl (by decide)) (fun cdv B outer s H E hgd hr => by
    have tk : Takes (cxOf (L2.CX P w) P w K mg base ["way"] "check_from" (defScope s_check_from) A.a_check_from cdv B outer s H E) (fun c d _ H => E c d H) := takes_of rfl rfl rfl rfl
    have hW : WFree (fun c d _ H => E c d H) := wfree_of
    have ps : PassesOwn (model P w) (cxOf (L2.CX P w) P w K mg base ["way"] "check_from" (defScope s_check_from) A.a_check_from cdv B outer s H E).A (cxOf (L2.CX P w) P w K mg base ["way"] "check_from" (defScope s_check_from) A.a_check_from cdv B outer s H E).env (cxOf (L2.CX P w) P w K mg base ["way"] "check_from" (defScope s_check_from) A.a_check_from cdv B outer s H E).xe := passes_of rfl
    exact (ss_one (si_if (ti_of_wi (wi_or (ti_not (ti_val (κ := 0) (ei_call (sg := sg_is_way_by) (ok_is_way_by T) hgd (hr.mono (by decide)) (by rfl) T.g_is_way_by T.F_is_way_by.kp (kb_is_way_by_1 T) tk (ci_cons (c1_e (κ := 0) (xV 0)) ci_nil) cm_n))) (wi_or1 (ti_cmp (op_neD (hu64 hr)) (lk_ne rfl) rfl (oe (ei_ix rfl (oe (xV 0)) (oe ei_int) (by intro _ _; rfl))) (oe (ei_tup (κ := 0) (ai_cons (κ := 0) ei_int (ai_cons (κ := 0) ei_int ai_nil)))))))) (ss_one (si_raise rfl hW T.box T.kt_InvalidWay hr T.k_InvalidWay (cl_InvalidWay T) rfl tk (xV 0))) ss_nil)))
theorem ok_boxes_by (T : Txt P w K mg A) : FnG P w K mg base (L2.CX P w) 3 A.a_boxes_by A.d_boxes_by ["word"] (spI (GG K A cl) sg_boxes_by F_boxes_by) :=
  fn_im (Γ' := [0, 0, 0, 0]) T.F_boxes_by sc_boxes_by rfl (by decide) (by decide) (.inl (by decide)) (fun cdv B outer s H E hgd hr => by
    have tk : Takes (cxOf (L2.CX P w) P w K mg base ["word", "found", "height", "sign"] "boxes_by" (defScope s_boxes_by) A.a_boxes_by cdv B outer s H E) (fun c d _ H => E c d H) := takes_of rfl rfl rfl rfl
    have hW : WFree (fun c d _ H => E c d H) := wfree_of
    have ps : PassesOwn (model P w) (cxOf (L2.CX P w) P w K mg base ["word", "found", "height", "sign"] "boxes_by" (defScope s_boxes_by) A.a_boxes_by cdv B outer s H E).A (cxOf (L2.CX P w) P w K mg base ["word", "found", "height", "sign"] "boxes_by" (defScope s_boxes_by) A.a_boxes_by cdv B outer s H E).env (cxOf (L2.CX P w) P w K mg base ["word", "found", "height", "sign"] "boxes_by" (defScope s_boxes_by) A.a_boxes_by cdv B outer s H E).xe := passes_of rfl
    exact (ss_cons (si_asg hW (ei_tup (κ := 0) (ai_cons (κ := 0) ei_int (ai_cons (κ := 0) ei_int ai_nil))) (tg_tup rfl (tgs_cons (tgN 1 sc_boxes_by.nd) (tgs_cons (tgN 2 sc_boxes_by.nd) tgs_nil))))
      (ss_cons (si_for ps rfl hW (ii_any rfl (oi_v (xS 0))) (tgN 3 sc_boxes_by.nd) (ss_one (si_par (i := 1) (j := 2) rfl hW sc_boxes_by.nd rfl rfl rfl rfl (ai_cons (κ := 0) (ei_bin op_addX lk_addX (oe (xS 1)) (oe (ei_bin op_mulX lk_mulX (oe (xS 2)) (oe (ei_t1 call_int1 lk_int (by rfl) T.b_int bt_int (oe (ei_cmp (op_eqD (hu64 hr)) (lk_eq rfl) rfl (oe (xS 3)) (oe ei_str)))))))) (ai_cons (κ := 0) (ei_bin op_addX lk_addX (oe (xS 2)) (oe (ei_t1 call_int1 lk_int (by rfl) T.b_int bt_int (oe (ei_cmp (op_eqD (hu64 hr)) (lk_eq rfl) rfl (oe (xS 3)) (oe ei_str)))))) ai_nil)))))
      (ss_one (si_ret (xS 1))))))
theorem ok_boxes_below (T : Txt P w K mg A) : FnG P w K mg base (L2.CX P w) 7 A.a_boxes_below A.d_boxes_below ["way"] (spI (GG K A cl) sg_boxes_below F_boxes_below) :=
  fn_im (Γ' := [0]) T.F_boxes_below sc_boxes_below rfl (by decide) (by decide) (.inl (by decide)) (fun cdv B outer s H E hgd hr => by
    have tk : Takes (cxOf (L2.CX P w) P w K mg base ["way"] "boxes_below" (defScope s_boxes_below) A.a_boxes_below cdv B outer s H E) (fun c d _ H => E c d H) := takes_of rfl rfl rfl rfl
    have hW : WFree (fun c d _ H => E c d H) := wfree_of
    have ps : PassesOwn (model P w) (cxOf (L2.CX P w) P w K mg base ["way"] "boxes_below" (defScope s_boxes_below) A.a_boxes_below cdv B outer s H E).A (cxOf (L2.CX P w) P w K mg base ["way"] "boxes_below" (defScope s_boxes_below) A.a_boxes_below cdv B outer s H E).env (cxOf (L2.CX P w) P w K mg base ["way"] "boxes_below" (defScope s_boxes_below) A.a_boxes_below cdv B outer s H E).xe := passes_of rfl
    exact (ss_cons (si_expr (κ := 0) (ei_call (sg := sg_check_from) (ok_check_from T) hgd (hr.mono (by decide)) (by rfl) T.g_check_from T.F_check_from.kp (kb_check_from_1 T) tk (ci_cons (c1_e (κ := 0) (xV 0)) ci_nil) cm_n))
      (ss_one (si_ret (ei_call (sg := sg_boxes_by) (ok_boxes_by T) hgd (hr.mono (by decide)) (by rfl) T.g_boxes_by T.F_boxes_by.kp (kb_boxes_by_1 T) tk (ci_cons (c1_e (κ := 0) (ei_ix rfl (oe (xV 0)) (oe ei_int) (by intro _ _; rfl))) ci_nil) cm_n)))))
theorem ok_ways_by_boxes (T : Txt P w K mg A) : FnG P w K mg base (L2.CX P w) 5 A.a_ways_by_boxes A.d_ways_by_boxes ["right", "up"] (spI (GG K A cl) sg_ways_by_boxes F_ways_by_boxes) :=
  fn_im (Γ' := [0, 0, 1, 0]) T.F_ways_by_boxes sc_ways_by_boxes rfl (by decide) (by decide) (.inl (by decide)) (fun cdv B outer s H E hgd hr => by
    have tk : Takes (cxOf (L2.CX P w) P w K mg base ["right", "up", "found", "word"] "ways_by_boxes" (defScope s_ways_by_boxes) A.a_ways_by_boxes cdv B outer s H E) (fun c d _ H => E c d H) := takes_of rfl rfl rfl rfl
    have hW : WFree (fun c d _ H => E c d H) := wfree_of
    have ps : PassesOwn (model P w) (cxOf (L2.CX P w) P w K mg base ["right", "up", "found", "word"] "ways_by_boxes" (defScope s_ways_by_boxes) A.a_ways_by_boxes cdv B outer s H E).A (cxOf (L2.CX P w) P w K mg base ["right", "up", "found", "word"] "ways_by_boxes" (defScope s_ways_by_boxes) A.a_ways_by_boxes cdv B outer s H E).env (cxOf (L2.CX P w) P w K mg base ["right", "up", "found", "word"] "ways_by_boxes" (defScope s_ways_by_boxes) A.a_ways_by_boxes cdv B outer s H E).xe := passes_of rfl
    exact (ss_cons (si_expr (κ := 0) (ei_call (sg := sg_check_side) (ok_check_side T) hgd (hr.mono (by decide)) (by rfl) T.g_check_side T.F_check_side.kp (kb_check_side_1 T) tk (ci_cons (c1_e (κ := 0) (xV 0)) ci_nil) cm_n))
      (ss_cons (si_expr (κ := 0) (ei_call (sg := sg_check_side) (ok_check_side T) hgd (hr.mono (by decide)) (by rfl) T.g_check_side T.F_check_side.kp (kb_check_side_1 T) tk (ci_cons (c1_e (κ := 0) (xV 1)) ci_nil) cm_n))
      (ss_cons (sSet (κ := 1) (Γ1 := [0, 0, 0, 0]) 2 sc_ways_by_boxes.nd hW (ei_rep (oi_v (ei_low (κ := 1) (κ' := 0) (ei_lst (κ := 0) (ai_cons (κ := 0) ei_int ai_nil)))) (oe (ei_bin op_addX lk_addX (oe (ei_bin op_mulX lk_mulX (oe (xV 0)) (oe (xV 1)))) (oe ei_int)))))
      (ss_cons (si_for ps rfl hW (ii_any rfl (oi_v (ei_call (sg := sg_words_with) (ok_words_with T) hgd (hr.mono (by decide)) (by rfl) T.g_words_with T.F_words_with.kp (kb_words_with_2 T) tk (ci_cons (c1_e (κ := 0) (xV 0)) (ci_cons (c1_e (κ := 0) (xV 1)) ci_nil)) cm_n))) (tgN 3 sc_ways_by_boxes.nd) (ss_one (si_augC (i := 2) rfl (visS (by first | exact Or.inl rfl | exact Or.inr (Or.inl rfl) | exact Or.inr (Or.inr rfl))) rfl rfl (oe (ei_call (sg := sg_boxes_by) (ok_boxes_by T) hgd (hr.mono (by decide)) (by rfl) T.g_boxes_by T.F_boxes_by.kp (kb_boxes_by_1 T) tk (ci_cons (c1_e (κ := 0) (xV 3)) ci_nil) cm_n)))))
      (ss_one (si_ret (xM (κ := 1) 2))))))))
theorem ok__law_hash (T : Txt P w K mg A) : FnG P w K mg base (L2.CX P w) 3 A.a__law_hash A.d__law_hash ["seed", "index"] (spI (GG K A cl) sg__law_hash F__law_hash) :=
  fn_im (Γ' := [0, 0, 0]) T.F__law_hash sc__law_hash rfl (by decide) (by decide) (.inl (by decide)) (fun cdv B outer s H E hgd hr => by
    have tk : Takes (cxOf (L2.CX P w) P w K mg base ["seed", "index", "mixed"] "_law_hash" (defScope s__law_hash) A.a__law_hash cdv B outer s H E) (fun c d _ H => E c d H) := takes_of rfl rfl rfl rfl
    have hW : WFree (fun c d _ H => E c d H) := wfree_of
    have ps : PassesOwn (model P w) (cxOf (L2.CX P w) P w K mg base ["seed", "index", "mixed"] "_law_hash" (defScope s__law_hash) A.a__law_hash cdv B outer s H E).A (cxOf (L2.CX P w) P w K mg base ["seed", "index", "mixed"] "_law_hash" (defScope s__law_hash) A.a__law_hash cdv B outer s H E).env (cxOf (L2.CX P w) P w K mg base ["seed", "index", "mixed"] "_law_hash" (defScope s__law_hash) A.a__law_hash cdv B outer s H E).xe := passes_of rfl
    exact (ss_cons (sSet (κ := 0) 2 sc__law_hash.nd hW (ei_bin op_modN lk_mod (oe (ei_t1 call_int1 lk_int (by rfl) T.b_int bt_int (oe (ei_bin op_addX lk_addX (oe (ei_bin op_addX lk_addX (oe (ei_bin op_addX lk_addX (oe (ei_bin op_mulX lk_mulX (oe (xS 0)) (oe ei_int))) (oe (ei_bin op_mulX lk_mulX (oe (ei_bin op_mulX lk_mulX (oe ei_int) (oe (xS 1)))) (oe (xS 1)))))) (oe (ei_bin op_mulX lk_mulX (oe ei_int) (oe (xS 1)))))) (oe ei_int))))) (oe ei_int)))
      (ss_cons (sSet (κ := 0) 2 sc__law_hash.nd hW (ei_bin op_modN lk_mod (oe (ei_t1 call_int1 lk_int (by rfl) T.b_int bt_int (oe (ei_bin op_addX lk_addX (oe (ei_bin op_addX lk_addX (oe (ei_bin op_mulX lk_mulX (oe (xS 2)) (oe (xS 2)))) (oe (ei_bin op_mulX lk_mulX (oe ei_int) (oe (xS 1)))))) (oe ei_int))))) (oe ei_int)))
      (ss_one (si_ret (ei_bin op_modN lk_mod (oe (ei_t1 call_int1 lk_int (by rfl) T.b_int bt_int (oe (ei_bin op_mulX lk_mulX (oe (xS 2)) (oe ei_int))))) (oe ei_int)))))))
theorem ok__law_random (T : Txt P w K mg A) : FnG P w K mg base (L2.CX P w) 4 A.a__law_random A.d__law_random ["generator", "bound"] (spI (GG K A cl) sg__law_random F__law_random) :=
  fn_im (Γ' := [1, 0, 0, 0]) T.F__law_random sc__law_random rfl (by decide) (by decide) (.inl (by decide)) (fun cdv B outer s H E hgd hr => by
    have tk : Takes (cxOf (L2.CX P w) P w K mg base ["generator", "bound", "drawn", "turn"] "_law_random" (defScope s__law_random) A.a__law_random cdv B outer s H E) (fun c d _ H => E c d H) := takes_of rfl rfl rfl rfl
    have hW : WFree (fun c d _ H => E c d H) := wfree_of
    have ps : PassesOwn (model P w) (cxOf (L2.CX P w) P w K mg base ["generator", "bound", "drawn", "turn"] "_law_random" (defScope s__law_random) A.a__law_random cdv B outer s H E).A (cxOf (L2.CX P w) P w K mg base ["generator", "bound", "drawn", "turn"] "_law_random" (defScope s__law_random) A.a__law_random cdv B outer s H E).env (cxOf (L2.CX P w) P w K mg base ["generator", "bound", "drawn", "turn"] "_law_random" (defScope s__law_random) A.a__law_random cdv B outer s H E).xe := passes_of rfl
    exact (ss_cons (si_if (ti_cmp op_gt lk_gt rfl (oe (ei_ixv rfl (xN 0) (oe ei_int) (by intro _ _; rfl))) (oe ei_int)) (ss_cons (sSet (κ := 0) 2 sc__law_random.nd hW (ei_bin op_modN lk_mod (oe (ei_t1 call_int1 lk_int (by rfl) T.b_int bt_int (oe (ei_ixv rfl (xN 0) (oe ei_int) (by intro _ _; rfl))))) (oe (xS 1))))
      (ss_cons (si_asg hW (ei_bin op_fdivN lk_div (oe (ei_ixv rfl (xN 0) (oe ei_int) (by intro _ _; rfl))) (oe (xS 1))) (tg_sub (i := 0) rfl (visS (by first | exact Or.inl rfl | exact Or.inr (Or.inl rfl) | exact Or.inr (Or.inr rfl))) rfl (oe ei_int)))
      (ss_one (si_ret (xS 2))))) ss_nil)
      (ss_cons (sSet (κ := 0) 2 sc__law_random.nd hW ei_int)
      (ss_cons (si_for ps rfl hW (ii_rng1 (by rfl) T.b_range (oe (ei_bin op_addX lk_addX (oe ei_int) (oe (ei_bin op_fdivN lk_div (oe (ei_bits (oe (xS 1)))) (oe ei_int)))))) (tgN 3 sc__law_random.nd) (ss_cons (si_asg hW (ei_bin op_addX lk_addX (oe (ei_ixv rfl (xN 0) (oe ei_int) (by intro _ _; rfl))) (oe ei_int)) (tg_sub (i := 0) rfl (visS (by first | exact Or.inl rfl | exact Or.inr (Or.inl rfl) | exact Or.inr (Or.inr rfl))) rfl (oe ei_int)))
      (ss_one (sSet (κ := 0) 2 sc__law_random.nd hW (ei_bin op_addX lk_addX (oe (ei_bin op_mulX lk_mulX (oe (xS 2)) (oe ei_int))) (oe (ei_call (sg := sg__law_hash) (ok__law_hash T) hgd (hr.mono (by decide)) (by rfl) T.g__law_hash T.F__law_hash.kp (kb_law_hash_2 T) tk (ci_cons (c1_e (κ := 0) (ei_ixv rfl (xN 0) (oe ei_int) (by intro _ _; rfl))) (ci_cons (c1_e (κ := 0) (ei_ixv rfl (xN 0) (oe ei_int) (by intro _ _; rfl))) ci_nil)) cm_n)))))))
      (ss_one (si_ret (ei_bin op_modN lk_mod (oe (ei_t1 call_int1 lk_int (by rfl) T.b_int bt_int (oe (xS 2)))) (oe (xS 1)))))))))
theorem ok__law_cell (T : Txt P w K mg A) : FnG P w K mg base (L2.CX P w) 3 A.a__law_cell A.d__law_cell ["script", "index"] (spI (GG K A cl) sg__law_cell F__law_cell) :=
  fn_im (Γ' := [0, 0]) T.F__law_cell sc__law_cell rfl (by decide) (by decide) (.inl (by decide)) (fun cdv B outer s H E hgd hr => by
    have tk : Takes (cxOf (L2.CX P w) P w K mg base ["script", "index"] "_law_cell" (defScope s__law_cell) A.a__law_cell cdv B outer s H E) (fun c d _ H => E c d H) := takes_of rfl rfl rfl rfl
    have hW : WFree (fun c d _ H => E c d H) := wfree_of
    have ps : PassesOwn (model P w) (cxOf (L2.CX P w) P w K mg base ["script", "index"] "_law_cell" (defScope s__law_cell) A.a__law_cell cdv B outer s H E).A (cxOf (L2.CX P w) P w K mg base ["script", "index"] "_law_cell" (defScope s__law_cell) A.a__law_cell cdv B outer s H E).env (cxOf (L2.CX P w) P w K mg base ["script", "index"] "_law_cell" (defScope s__law_cell) A.a__law_cell cdv B outer s H E).xe := passes_of rfl
    exact (ss_cons (si_if (ti_cmp op_lt lk_lt rfl (oe (xS 1)) (oe (ei_b1 call_len (lk_len rfl) (by rfl) T.b_len bt_len (oe (xV 0))))) (ss_one (si_ret (ei_ix rfl (oe (xV 0)) (oe (xS 1)) (by intro _ _; rfl)))) ss_nil)
      (ss_one (si_ret (ei_bin op_modN lk_mod (oe (ei_b1 (cr_sum rfl) lk_sum (by rfl) T.b_sum bt_sum (oe (ei_low (κ := 1) (κ' := 0) (ei_slice rfl (oi_v (xV 0)) pi_n (pi_s (oe ei_int))))))) (oe ei_int))))))
theorem ok__law_generator (T : Txt P w K mg A) : FnG P w K mg base (L2.CX P w) 4 A.a__law_generator A.d__law_generator ["script", "index"] (spI (GG K A cl) sg__law_generator F__law_generator) :=
  fn_im (Γ' := [0, 0, 0]) T.F__law_generator sc__law_generator rfl (by decide) (by decide) (.inl (by decide)) (fun cdv B outer s H E hgd hr => by
    have tk : Takes (cxOf (L2.CX P w) P w K mg base ["script", "index", "seed"] "_law_generator" (defScope s__law_generator) A.a__law_generator cdv B outer s H E) (fun c d _ H => E c d H) := takes_of rfl rfl rfl rfl
    have hW : WFree (fun c d _ H => E c d H) := wfree_of
    have ps : PassesOwn (model P w) (cxOf (L2.CX P w) P w K mg base ["script", "index", "seed"] "_law_generator" (defScope s__law_generator) A.a__law_generator cdv B outer s H E).A (cxOf (L2.CX P w) P w K mg base ["script", "index", "seed"] "_law_generator" (defScope s__law_generator) A.a__law_generator cdv B outer s H E).env (cxOf (L2.CX P w) P w K mg base ["script", "index", "seed"] "_law_generator" (defScope s__law_generator) A.a__law_generator cdv B outer s H E).xe := passes_of rfl
    exact (ss_cons (sSet (κ := 0) 2 sc__law_generator.nd hW (ei_call (sg := sg__law_cell) (ok__law_cell T) hgd (hr.mono (by decide)) (by rfl) T.g__law_cell T.F__law_cell.kp (kb_law_cell_2 T) tk (ci_cons (c1_e (κ := 0) (xV 0)) (ci_cons (c1_e (κ := 0) (xS 1)) ci_nil)) cm_n))
      (ss_one (si_ret (ei_lst (κ := 0) (ai_cons (κ := 0) (ei_bin op_modN lk_mod (oe (ei_t1 call_int1 lk_int (by rfl) T.b_int bt_int (oe (ei_b2 (call_max2 rfl) lk_max (by rfl) T.b_max bt_max (oe (ei_bin op_sub lk_sub (oe (xS 2)) (oe (ei_bin op_powG lk_pow (oe ei_int) (oe ei_int))))) (oe ei_int))))) (oe (ei_bin op_powG lk_pow (oe (ei_bin op_powG lk_pow (oe ei_int) (oe ei_int))) (oe ei_int)))) (ai_cons (κ := 0) (ei_bin op_modN lk_mod (oe (ei_t1 call_int1 lk_int (by rfl) T.b_int bt_int (oe (xS 2)))) (oe ei_int)) (ai_cons (κ := 0) (ei_bin op_mulX lk_mulX (oe ei_int) (oe (xS 1))) ai_nil))))))))
theorem ok__law_pick (T : Txt P w K mg A) : FnG P w K mg base (L2.CX P w) 5 A.a__law_pick A.d__law_pick ["generator", "things"] (spI (GG K A cl) sg__law_pick F__law_pick) :=
  fn_im (Γ' := [1, 0]) T.F__law_pick sc__law_pick rfl (by decide) (by decide) (.inl (by decide)) (fun cdv B outer s H E hgd hr => by
    have tk : Takes (cxOf (L2.CX P w) P w K mg base ["generator", "things"] "_law_pick" (defScope s__law_pick) A.a__law_pick cdv B outer s H E) (fun c d _ H => E c d H) := takes_of rfl rfl rfl rfl
    have hW : WFree (fun c d _ H => E c d H) := wfree_of
    have ps : PassesOwn (model P w) (cxOf (L2.CX P w) P w K mg base ["generator", "things"] "_law_pick" (defScope s__law_pick) A.a__law_pick cdv B outer s H E).A (cxOf (L2.CX P w) P w K mg base ["generator", "things"] "_law_pick" (defScope s__law_pick) A.a__law_pick cdv B outer s H E).env (cxOf (L2.CX P w) P w K mg base ["generator", "things"] "_law_pick" (defScope s__law_pick) A.a__law_pick cdv B outer s H E).xe := passes_of rfl
    exact (ss_one (si_ret (ei_ix rfl (oe (xV 1)) (oe (ei_call (sg := sg__law_random) (ok__law_random T) hgd (hr.mono (by decide)) (by rfl) T.g__law_random T.F__law_random.kp (kb_law_random_2 T) tk (ci_cons (xR (κ := 1) 0) (ci_cons (c1_e (κ := 0) (ei_b1 call_len (lk_len rfl) (by rfl) T.b_len bt_len (oe (xV 1)))) ci_nil)) (cm_r (Γ' := [1, 0]) 0 0 0 1))) (by intro _ _; rfl)))))
theorem ok__law_exact (T : Txt P w K mg A) : ∀ n : Nat, FnG P w K mg base (L2.CX P w) (3 + n) A.a__law_exact A.d__law_exact ["due", "told"] (spI (GG K A cl) sg__law_exact (F__law_exact n))
  | 0 => ⟨fun vs H Q E h => h.1, fun _ _ _ _ _ _ _ _ _ _ _ _ _ _ ⟨_, _, _, _, _, _, z⟩ => z.elim⟩
  | n + 1 => by
    have rc := ok__law_exact T n
    show FnG P w K mg base (L2.CX P w) (3 + n + 1) A.a__law_exact A.d__law_exact ["due", "told"] (spI (GG K A cl) sg__law_exact (runF 3 [none, none] (m__law_exact (F__law_exact n))))
    exact fn_im (Γ' := [0, 0, 0]) T.F__law_exact sc__law_exact rfl (by decide) (by decide) (.inl (by decide)) (fun cdv B outer s H E hgd hr => by
    have tk : Takes (cxOf (L2.CX P w) P w K mg base ["due", "told", "at"] "_law_exact" (defScope s__law_exact) A.a__law_exact cdv B outer s H E) (fun c d _ H => E c d H) := takes_of rfl rfl rfl rfl
    have hW : WFree (fun c d _ H => E c d H) := wfree_of
    have ps : PassesOwn (model P w) (cxOf (L2.CX P w) P w K mg base ["due", "told", "at"] "_law_exact" (defScope s__law_exact) A.a__law_exact cdv B outer s H E).A (cxOf (L2.CX P w) P w K mg base ["due", "told", "at"] "_law_exact" (defScope s__law_exact) A.a__law_exact cdv B outer s H E).env (cxOf (L2.CX P w) P w K mg base ["due", "told", "at"] "_law_exact" (defScope s__law_exact) A.a__law_exact cdv B outer s H E).xe := passes_of rfl
    exact (ss_cons (si_if (ti_val (κ := 0) (ei_isi2 rfl (Ts := "list") (Us := "tuple") (by decide) (by decide) (by rfl) T.b_isinstance bt_isinstance (by rfl) T.b_list bt_list (by rfl) T.b_tuple bt_tuple (oe (xV 0)))) (ss_cons (si_if (ti_of_wi (wi_or (ti_cmp (op_neD (hu64 hr)) (lk_ne rfl) rfl (oe (ei_isi (Ts := "list") rfl (by decide) (by rfl) T.b_isinstance bt_isinstance (by rfl) T.b_list bt_list (oe (xV 0)))) (oe (ei_isi (Ts := "list") rfl (by decide) (by rfl) T.b_isinstance bt_isinstance (by rfl) T.b_list bt_list (oe (xV 1))))) (wi_or1 (ti_cmp (op_neD (hu64 hr)) (lk_ne rfl) rfl (oe (ei_isi (Ts := "tuple") rfl (by decide) (by rfl) T.b_isinstance bt_isinstance (by rfl) T.b_tuple bt_tuple (oe (xV 0)))) (oe (ei_isi (Ts := "tuple") rfl (by decide) (by rfl) T.b_isinstance bt_isinstance (by rfl) T.b_tuple bt_tuple (oe (xV 1)))))))) (ss_one (si_ret ei_bl)) ss_nil)
      (ss_one (si_ret (ei_and (κ1 := 0) (ei_cmp (op_eqD (hu64 hr)) (lk_eq rfl) rfl (oe (ei_b1 call_len (lk_len rfl) (by rfl) T.b_len bt_len (oe (xV 1)))) (oe (ei_b1 call_len (lk_len rfl) (by rfl) T.b_len bt_len (oe (xV 0))))) (ei_one (ei_cmp (op_eqD (hu64 hr)) (lk_eq rfl) rfl (oe (ei_low (κ := 1) (κ' := 0) (ei_lc (own := [("at", 2)]) rfl sc__law_exact.nd (ii_rng1 (by rfl) T.b_range (oe (ei_b1 call_len (lk_len rfl) (by rfl) T.b_len bt_len (oe (xV 0))))) (blkOk_by (show blkC ["due", "told", "at"] (defScope s__law_exact) _ [("at", 2)] = true by decide +kernel)) (fun _ _ _ _ _ => (tgN 2 sc__law_exact.nd)) (fun _ _ _ _ _ => by have tk := @takesN; exact (tt_one (ti_not (ti_val (κ := 0) (ei_call (sg := sg__law_exact) rc hgd hr (by rfl) T.g__law_exact T.F__law_exact.kp (kb_law_exact_2 T) tk (ci_cons (c1_e (κ := 0) (ei_ix rfl (oe (xV 0)) (oe (xS 2)) (by intro _ _; rfl))) (ci_cons (c1_e (κ := 0) (ei_ix rfl (oe (xV 1)) (oe (xS 2)) (by intro _ _; rfl))) ci_nil)) cm_n))))) (fun _ _ _ _ _ => (xS 2))))) (oe (ei_low (κ := 1) (κ' := 0) (ei_lst (κ := 0) ai_nil))))))))) ss_nil)
      (ss_cons (si_if (ti_of_wi (wi_or (ti_cmp op_isN lk_isN rfl (oe (xV 0)) (oe ei_non)) (wi_or1 (ti_val (κ := 0) (ei_isi (Ts := "bool") rfl (by decide) (by rfl) T.b_isinstance bt_isinstance (by rfl) T.b_bool bt_bool (oe (xV 0))))))) (ss_one (si_ret (ei_or (κ1 := 0) (ei_and (κ1 := 0) (ei_cmp op_isN lk_isN rfl (oe (xV 0)) (oe ei_non)) (ei_one (ei_cmp op_isN lk_isN rfl (oe (xV 1)) (oe ei_non)))) (ei_or (κ1 := 0) (ei_and (κ1 := 0) (ei_cmp op_isB1 lk_isB rfl (oe (xV 0)) (oe ei_bl)) (ei_one (ei_cmp op_isB1 lk_isB rfl (oe (xV 1)) (oe ei_bl)))) (ei_one (ei_and (κ1 := 0) (ei_cmp op_isB1 lk_isB rfl (oe (xV 0)) (oe ei_bl)) (ei_one (ei_cmp op_isB1 lk_isB rfl (oe (xV 1)) (oe ei_bl))))))))) ss_nil)
      (ss_cons (si_if (ti_val (κ := 0) (ei_isi (Ts := "str") rfl (by decide) (by rfl) T.b_isinstance bt_isinstance (by rfl) T.b_str bt_str (oe (xV 0)))) (ss_one (si_ret (ei_and (κ1 := 0) (ei_isi (Ts := "str") rfl (by decide) (by rfl) T.b_isinstance bt_isinstance (by rfl) T.b_str bt_str (oe (xV 1))) (ei_one (ei_cmp (op_eqD (hu64 hr)) (lk_eq rfl) rfl (oe (xV 1)) (oe (xV 0))))))) ss_nil)
      (ss_one (si_ret (ei_and (κ1 := 0) (ei_isi (Ts := "int") rfl (by decide) (by rfl) T.b_isinstance bt_isinstance (by rfl) T.b_int bt_int (oe (xV 1))) (ei_and (κ1 := 0) (ei_not (κ1 := 0) (ei_isi (Ts := "bool") rfl (by decide) (by rfl) T.b_isinstance bt_isinstance (by rfl) T.b_bool bt_bool (oe (xV 1)))) (ei_one (ei_cmp (op_eqD (hu64 hr)) (lk_eq rfl) rfl (oe (xV 1)) (oe (xV 0))))))))))))
theorem ok__law_lists (T : Txt P w K mg A) : ∀ n : Nat, FnG P w K mg base (L2.CX P w) (3 + n) A.a__law_lists A.d__law_lists ["thing"] (spI (GG K A cl) sg__law_lists (F__law_lists n))
  | 0 => ⟨fun vs H Q E h => h.1, fun _ _ _ _ _ _ _ _ _ _ _ _ _ _ ⟨_, _, _, _, _, _, z⟩ => z.elim⟩
  | n + 1 => by
    have rc := ok__law_lists T n
    show FnG P w K mg base (L2.CX P w) (3 + n + 1) A.a__law_lists A.d__law_lists ["thing"] (spI (GG K A cl) sg__law_lists (runF 3 [none] (m__law_lists (F__law_lists n))))
    exact fn_im (Γ' := [0, 1, 0]) T.F__law_lists sc__law_lists rfl (by decide) (by decide) (.inl (by decide)) (fun cdv B outer s H E hgd hr => by
    have tk : Takes (cxOf (L2.CX P w) P w K mg base ["thing", "found", "part"] "_law_lists" (defScope s__law_lists) A.a__law_lists cdv B outer s H E) (fun c d _ H => E c d H) := takes_of rfl rfl rfl rfl
    have hW : WFree (fun c d _ H => E c d H) := wfree_of
    have ps : PassesOwn (model P w) (cxOf (L2.CX P w) P w K mg base ["thing", "found", "part"] "_law_lists" (defScope s__law_lists) A.a__law_lists cdv B outer s H E).A (cxOf (L2.CX P w) P w K mg base ["thing", "found", "part"] "_law_lists" (defScope s__law_lists) A.a__law_lists cdv B outer s H E).env (cxOf (L2.CX P w) P w K mg base ["thing", "found", "part"] "_law_lists" (defScope s__law_lists) A.a__law_lists cdv B outer s H E).xe := passes_of rfl
    exact (ss_cons (sSet (κ := 1) (Γ1 := [0, 0, 0]) 1 sc__law_lists.nd hW (ei_if (ti_val (κ := 0) (ei_isi (Ts := "list") rfl (by decide) (by rfl) T.b_isinstance bt_isinstance (by rfl) T.b_list bt_list (oe (xV 0)))) (ei_lst (κ := 0) (ai_cons (κ := 0) (ei_alias (xV 0)) ai_nil)) (ei_lst (κ := 0) ai_nil)))
      (ss_cons (si_for ps rfl hW (ii_any rfl (oi_v (ei_if (ti_val (κ := 0) (ei_isi2 rfl (Ts := "list") (Us := "tuple") (by decide) (by decide) (by rfl) T.b_isinstance bt_isinstance (by rfl) T.b_list bt_list (by rfl) T.b_tuple bt_tuple (oe (xV 0)))) (ei_untag (xV 0)) (ei_low (κ := 1) (κ' := 0) (ei_lst (κ := 0) ai_nil))))) (tgN 2 sc__law_lists.nd) (ss_one (sSet (κ := 1) (Γ1 := [0, 1, 0]) 1 sc__law_lists.nd hW (ei_cat (xN 1) (oi_v (ei_low (κ := 1) (κ' := 0) (ei_call (sg := sg__law_lists) rc hgd hr (by rfl) T.g__law_lists T.F__law_lists.kp (kb_law_lists_1 T) tk (ci_cons (c1_e (κ := 0) (xV 2)) ci_nil) cm_n)))))))
      (ss_one (si_ret (xM (κ := 1) 1))))))
theorem ok__law_own (T : Txt P w K mg A) : FnG P w K mg base (L2.CX P w) 12 A.a__law_own A.d__law_own ["generator", "told", "given"] (spI (GG K A cl) sg__law_own F__law_own) :=
  fn_tag rfl fun as nd => by
    have TO : TagOk (GG K A (byAd as)) := tagOk_ad nd
    exact fn_im (Γ' := [1, 1, 0, 0, 0, 0, 0]) T.F__law_own sc__law_own rfl (by decide) (by decide) (.inl (by decide)) (fun cdv B outer s H E hgd hr => by
    have tk : Takes (cxOf (L2.CX P w) P w K mg base ["generator", "told", "given", "kept", "some", "turn", "one"] "_law_own" (defScope s__law_own) A.a__law_own cdv B outer s H E) (fun c d _ H => E c d H) := takes_of rfl rfl rfl rfl
    have hW : WFree (fun c d _ H => E c d H) := wfree_of
    have ps : PassesOwn (model P w) (cxOf (L2.CX P w) P w K mg base ["generator", "told", "given", "kept", "some", "turn", "one"] "_law_own" (defScope s__law_own) A.a__law_own cdv B outer s H E).A (cxOf (L2.CX P w) P w K mg base ["generator", "told", "given", "kept", "some", "turn", "one"] "_law_own" (defScope s__law_own) A.a__law_own cdv B outer s H E).env (cxOf (L2.CX P w) P w K mg base ["generator", "told", "given", "kept", "some", "turn", "one"] "_law_own" (defScope s__law_own) A.a__law_own cdv B outer s H E).xe := passes_of rfl
    exact (ss_cons (si_par (i := 3) (j := 4) rfl hW sc__law_own.nd rfl rfl rfl rfl (ai_cons (κ := 0) (ei_b1 (call_repr hgd (hu64 hr)) (lk_repr rfl) (by rfl) T.b_repr bt_repr (oe (xV 2))) (ai_cons (κ := 0) (ei_low (κ := 1) (κ' := 0) (ei_flat (ei_call (sg := sg__law_lists) (ok__law_lists T 8) hgd (hr.mono (by decide)) (by rfl) T.g__law_lists T.F__law_lists.kp (kb_law_lists_1 T) tk (ci_cons (c1_e (κ := 0) (xL 1)) ci_nil) cm_n))) ai_nil)))
      (ss_cons (si_for ps rfl hW (ii_rng1 (by rfl) T.b_range (oe (ei_b2 (call_min2 rfl) lk_min (by rfl) T.b_min bt_min (oe ei_int) (oe (ei_b1 call_len (lk_len rfl) (by rfl) T.b_len bt_len (oe (xV 4))))))) (tgN 5 sc__law_own.nd) (ss_cons (sSet (κ := 0) 6 sc__law_own.nd hW (ei_ix rfl (oe (xV 4)) (oe (ei_call (sg := sg__law_random) (ok__law_random T) hgd (hr.mono (by decide)) (by rfl) T.g__law_random T.F__law_random.kp (kb_law_random_2 T) tk (ci_cons (xR (κ := 1) 0) (ci_cons (c1_e (κ := 0) (ei_b1 call_len (lk_len rfl) (by rfl) T.b_len bt_len (oe (xV 4)))) ci_nil)) (cm_r (Γ' := [1, 1, 0, 0, 0, 0, 0]) 0 0 0 1))) (by intro _ _; rfl)))
      (ss_cons (si_expr (κ := 0) (ei_tapp (i := 6) (t := 1) (k := 1) TO rfl (by first | exact Or.inl rfl | exact Or.inr (Or.inl rfl) | exact Or.inr (Or.inr rfl)) rfl))
      (ss_cons (si_if (ti_of_wi (wi_or (ti_cmp (op_neD (hu64 hr)) (lk_ne rfl) rfl (oe (ei_count (oe (xReprN 1 (call_repr hgd (hu64 hr)) (lk_repr rfl) (by rfl) T.b_repr bt_repr)) (oe ei_str))) (oe ei_int)) (wi_or1 (ti_cmp (op_neD (hu64 hr)) (lk_ne rfl) rfl (oe (ei_b1 (call_repr hgd (hu64 hr)) (lk_repr rfl) (by rfl) T.b_repr bt_repr (oe (xV 2)))) (oe (xS 3)))))) (ss_one (si_ret ei_bl)) ss_nil)
      (ss_one (si_expr (κ := 0) (ei_tpop (i := 6) (t := 1) (k := 1) TO rfl (by first | exact Or.inl rfl | exact Or.inr (Or.inl rfl) | exact Or.inr (Or.inr rfl)) rfl)))))))
      (ss_one (si_ret ei_bl)))))
theorem ok__law_words (T : Txt P w K mg A) : FnG P w K mg base (L2.CX P w) 3 A.a__law_words A.d__law_words ["rights", "ups"] (spI (GG K A cl) sg__law_words F__law_words) :=
  fn_im (Γ' := [0, 0, 0, 0, 0, 0, 0, 0]) T.F__law_words sc__law_words rfl (by decide) (by decide) (.inl (by decide)) (fun cdv B outer s H E hgd hr => by
    have tk : Takes (cxOf (L2.CX P w) P w K mg base ["rights", "ups", "found", "turn", "late", "word", "right", "up"] "_law_words" (defScope s__law_words) A.a__law_words cdv B outer s H E) (fun c d _ H => E c d H) := takes_of rfl rfl rfl rfl
    have hW : WFree (fun c d _ H => E c d H) := wfree_of
    have ps : PassesOwn (model P w) (cxOf (L2.CX P w) P w K mg base ["rights", "ups", "found", "turn", "late", "word", "right", "up"] "_law_words" (defScope s__law_words) A.a__law_words cdv B outer s H E).A (cxOf (L2.CX P w) P w K mg base ["rights", "ups", "found", "turn", "late", "word", "right", "up"] "_law_words" (defScope s__law_words) A.a__law_words cdv B outer s H E).env (cxOf (L2.CX P w) P w K mg base ["rights", "ups", "found", "turn", "late", "word", "right", "up"] "_law_words" (defScope s__law_words) A.a__law_words cdv B outer s H E).xe := passes_of rfl
    exact (ss_cons (sSet (κ := 0) 2 sc__law_words.nd hW (ei_low (κ := 1) (κ' := 0) (ei_lst (κ := 0) (ai_cons (κ := 0) (ei_tup (κ := 0) (ai_cons (κ := 0) ei_str (ai_cons (κ := 0) (xS 0) (ai_cons (κ := 0) (xS 1) ai_nil)))) ai_nil))))
      (ss_cons (si_for ps rfl hW (ii_rng1 (by rfl) T.b_range (oe (ei_bin op_addX lk_addX (oe (xS 0)) (oe (xS 1))))) (tgN 3 sc__law_words.nd) (ss_cons (sSet (κ := 0) 4 sc__law_words.nd hW (ei_low (κ := 1) (κ' := 0) (ei_lst (κ := 0) ai_nil)))
      (ss_cons (si_for ps rfl hW (ii_any rfl (oi_v (xV 2))) (tg_tup rfl (tgs_cons (tgN 5 sc__law_words.nd) (tgs_cons (tgN 6 sc__law_words.nd) (tgs_cons (tgN 7 sc__law_words.nd) tgs_nil)))) (ss_one (sSet (κ := 0) 4 sc__law_words.nd hW (ei_low (κ := 1) (κ' := 0) (ei_cat (oi_v (ei_low (κ := 1) (κ' := 0) (ei_cat (oi_v (xV 4)) (oi_v (ei_low (κ := 1) (κ' := 0) (ei_rep (oi_v (ei_low (κ := 1) (κ' := 0) (ei_lst (κ := 0) (ai_cons (κ := 0) (ei_tup (κ := 0) (ai_cons (κ := 0) (ei_bin op_addX lk_addX (oe (xS 5)) (oe ei_str)) (ai_cons (κ := 0) (ei_bin op_sub lk_sub (oe (xS 6)) (oe ei_int)) (ai_cons (κ := 0) (xS 7) ai_nil)))) ai_nil)))) (oe (ei_t1 call_int1 lk_int (by rfl) T.b_int bt_int (oe (ei_cmp op_gt lk_gt rfl (oe (xS 6)) (oe ei_int))))))))))) (oi_v (ei_low (κ := 1) (κ' := 0) (ei_rep (oi_v (ei_low (κ := 1) (κ' := 0) (ei_lst (κ := 0) (ai_cons (κ := 0) (ei_tup (κ := 0) (ai_cons (κ := 0) (ei_bin op_addX lk_addX (oe (xS 5)) (oe ei_str)) (ai_cons (κ := 0) (xS 6) (ai_cons (κ := 0) (ei_bin op_sub lk_sub (oe (xS 7)) (oe ei_int)) ai_nil)))) ai_nil)))) (oe (ei_t1 call_int1 lk_int (by rfl) T.b_int bt_int (oe (ei_cmp op_gt lk_gt rfl (oe (xS 7)) (oe ei_int)))))))))))))
      (ss_one (sSet (κ := 0) 2 sc__law_words.nd hW (xV 4))))))
      (ss_one (si_ret (ei_low (κ := 1) (κ' := 0) (ei_lc (own := [("word", 5), ("right", 6), ("up", 7)]) rfl sc__law_words.nd (ii_any rfl (oi_v (xV 2))) (blkOk_by (show blkC ["rights", "ups", "found", "turn", "late", "word", "right", "up"] (defScope s__law_words) _ [("word", 5), ("right", 6), ("up", 7)] = true by decide +kernel)) (fun _ _ _ _ _ => (tg_tup rfl (tgs_cons (tgN 5 sc__law_words.nd) (tgs_cons (tgN 6 sc__law_words.nd) (tgs_cons (tgN 7 sc__law_words.nd) tgs_nil))))) (fun _ _ _ _ _ => tt_nil) (fun _ _ _ _ _ => (xS 5)))))))))
theorem ok__law_chosen (T : Txt P w K mg A) : FnG P w K mg base (L2.CX P w) 3 A.a__law_chosen A.d__law_chosen ["many", "some"] (spI (GG K A cl) sg__law_chosen F__law_chosen) :=
  fn_im (Γ' := [0, 0, 0, 0]) T.F__law_chosen sc__law_chosen rfl (by decide) (by decide) (.inl (by decide)) (fun cdv B outer s H E hgd hr => by
    have tk : Takes (cxOf (L2.CX P w) P w K mg base ["many", "some", "found", "at"] "_law_chosen" (defScope s__law_chosen) A.a__law_chosen cdv B outer s H E) (fun c d _ H => E c d H) := takes_of rfl rfl rfl rfl
    have hW : WFree (fun c d _ H => E c d H) := wfree_of
    have ps : PassesOwn (model P w) (cxOf (L2.CX P w) P w K mg base ["many", "some", "found", "at"] "_law_chosen" (defScope s__law_chosen) A.a__law_chosen cdv B outer s H E).A (cxOf (L2.CX P w) P w K mg base ["many", "some", "found", "at"] "_law_chosen" (defScope s__law_chosen) A.a__law_chosen cdv B outer s H E).env (cxOf (L2.CX P w) P w K mg base ["many", "some", "found", "at"] "_law_chosen" (defScope s__law_chosen) A.a__law_chosen cdv B outer s H E).xe := passes_of rfl
    exact (ss_cons (sSet (κ := 0) 2 sc__law_chosen.nd hW ei_int)
      (ss_cons (si_for ps rfl hW (ii_rng1 (by rfl) T.b_range (oe (xS 1))) (tgN 3 sc__law_chosen.nd) (ss_one (sSet (κ := 0) 2 sc__law_chosen.nd hW (ei_bin op_fdivN lk_div (oe (ei_bin op_mulX lk_mulX (oe (xS 2)) (oe (ei_bin op_sub lk_sub (oe (xS 0)) (oe (xS 3)))))) (oe (ei_bin op_addX lk_addX (oe (xS 3)) (oe ei_int)))))))
      (ss_one (si_ret (xS 2))))))
theorem ok__law_bad_way (T : Txt P w K mg A) : FnG P w K mg base (L2.CX P w) 6 A.a__law_bad_way A.d__law_bad_way ["generator", "way"] (spI (GG K A cl) sg__law_bad_way F__law_bad_way) :=
  fn_im (Γ' := [1, 0, 0, 0, 0, 0]) T.F__law_bad_way sc__law_bad_way rfl (by decide) (by decide) (.inl (by decide)) (fun cdv B outer s H E hgd hr => by
    have tk : Takes (cxOf (L2.CX P w) P w K mg base ["generator", "way", "word", "start", "steps", "odd"] "_law_bad_way" (defScope s__law_bad_way) A.a__law_bad_way cdv B outer s H E) (fun c d _ H => E c d H) := takes_of rfl rfl rfl rfl
    have hW : WFree (fun c d _ H => E c d H) := wfree_of
    have ps : PassesOwn (model P w) (cxOf (L2.CX P w) P w K mg base ["generator", "way", "word", "start", "steps", "odd"] "_law_bad_way" (defScope s__law_bad_way) A.a__law_bad_way cdv B outer s H E).A (cxOf (L2.CX P w) P w K mg base ["generator", "way", "word", "start", "steps", "odd"] "_law_bad_way" (defScope s__law_bad_way) A.a__law_bad_way cdv B outer s H E).env (cxOf (L2.CX P w) P w K mg base ["generator", "way", "word", "start", "steps", "odd"] "_law_bad_way" (defScope s__law_bad_way) A.a__law_bad_way cdv B outer s H E).xe := passes_of rfl
    exact (ss_cons (si_asg hW (xV 1) (tg_tup rfl (tgs_cons (tgN 2 sc__law_bad_way.nd) (tgs_cons (tgN 3 sc__law_bad_way.nd) (tgs_cons (tgN 4 sc__law_bad_way.nd) tgs_nil)))))
      (ss_cons (sSet (κ := 0) 5 sc__law_bad_way.nd hW (ei_low (κ := 1) (κ' := 0) (ei_lst (κ := 0) (ai_cons (κ := 0) ei_non (ai_cons (κ := 0) (ei_tup (κ := 0) ai_nil) (ai_cons (κ := 0) (ei_low (κ := 1) (κ' := 0) (ei_list (by rfl) T.b_list bt_list (oi_v (xV 1)))) (ai_cons (κ := 0) (ei_tup (κ := 0) (ai_cons (κ := 0) ei_str (ai_cons (κ := 0) (xV 3) (ai_cons (κ := 0) (xS 4) ai_nil)))) (ai_cons (κ := 0) (ei_tup (κ := 0) (ai_cons (κ := 0) ei_str (ai_cons (κ := 0) (xV 3) ai_nil))) (ai_cons (κ := 0) (ei_tup (κ := 0) (ai_cons (κ := 0) ei_str (ai_cons (κ := 0) (xV 3) (ai_cons (κ := 0) (xS 4) (ai_cons (κ := 0) ei_int ai_nil))))) (ai_cons (κ := 0) (ei_tup (κ := 0) (ai_cons (κ := 0) ei_str (ai_cons (κ := 0) (ei_low (κ := 1) (κ' := 0) (ei_list (by rfl) T.b_list bt_list (oi_v (xV 3)))) (ai_cons (κ := 0) (xS 4) ai_nil)))) (ai_cons (κ := 0) (ei_tup (κ := 0) (ai_cons (κ := 0) ei_str (ai_cons (κ := 0) (xV 3) (ai_cons (κ := 0) (ei_low (κ := 1) (κ' := 0) (ei_listC rfl (by rfl) T.b_list bt_list (oe (xS 4)))) ai_nil)))) ai_nil)))))))))))
      (ss_cons (sSet (κ := 0) 5 sc__law_bad_way.nd hW (ei_low (κ := 1) (κ' := 0) (ei_cat (oi_v (xV 5)) (oi_v (ei_low (κ := 1) (κ' := 0) (ei_lst (κ := 0) (ai_cons (κ := 0) (ei_tup (κ := 0) (ai_cons (κ := 0) ei_str (ai_cons (κ := 0) (xV 3) (ai_cons (κ := 0) (ei_bin op_addX lk_addX (oe (xS 4)) (oe ei_str)) ai_nil)))) (ai_cons (κ := 0) (ei_tup (κ := 0) (ai_cons (κ := 0) ei_str (ai_cons (κ := 0) (xV 3) (ai_cons (κ := 0) (ei_bin op_addX lk_addX (oe (xS 4)) (oe ei_str)) ai_nil)))) (ai_cons (κ := 0) (ei_tup (κ := 0) (ai_cons (κ := 0) ei_str (ai_cons (κ := 0) (xV 3) (ai_cons (κ := 0) (ei_bin op_mulX lk_mulX (oe ei_str) (oe ei_int)) ai_nil)))) (ai_cons (κ := 0) (ei_tup (κ := 0) (ai_cons (κ := 0) ei_str (ai_cons (κ := 0) (ei_tup (κ := 0) (ai_cons (κ := 0) ei_int (ai_cons (κ := 0) ei_int ai_nil))) (ai_cons (κ := 0) ei_str ai_nil)))) (ai_cons (κ := 0) (ei_tup (κ := 0) (ai_cons (κ := 0) ei_str (ai_cons (κ := 0) (ei_tup (κ := 0) (ai_cons (κ := 0) ei_int (ai_cons (κ := 0) ei_int ai_nil))) (ai_cons (κ := 0) ei_str ai_nil)))) ai_nil)))))))))))
      (ss_cons (sSet (κ := 0) 5 sc__law_bad_way.nd hW (ei_low (κ := 1) (κ' := 0) (ei_cat (oi_v (xV 5)) (oi_v (ei_low (κ := 1) (κ' := 0) (ei_lst (κ := 0) (ai_cons (κ := 0) (ei_tup (κ := 0) (ai_cons (κ := 0) ei_str (ai_cons (κ := 0) (ei_tup (κ := 0) (ai_cons (κ := 0) (ei_bin op_sub lk_sub (oe ei_int) (oe ei_int)) (ai_cons (κ := 0) ei_int ai_nil))) (ai_cons (κ := 0) ei_str ai_nil)))) (ai_cons (κ := 0) (ei_tup (κ := 0) (ai_cons (κ := 0) ei_str (ai_cons (κ := 0) (xV 3) (ai_cons (κ := 0) ei_non ai_nil)))) (ai_cons (κ := 0) (ei_tup (κ := 0) (ai_cons (κ := 0) ei_non (ai_cons (κ := 0) (xV 3) (ai_cons (κ := 0) (xS 4) ai_nil)))) ai_nil)))))))))
      (ss_one (si_ret (ei_call (sg := sg__law_pick) (ok__law_pick T) hgd (hr.mono (by decide)) (by rfl) T.g__law_pick T.F__law_pick.kp (kb_law_pick_2 T) tk (ci_cons (xR (κ := 1) 0) (ci_cons (c1_e (κ := 0) (ei_low (κ := 1) (κ' := 0) (ei_cat (oi_v (xV 5)) (oi_v (ei_low (κ := 1) (κ' := 0) (ei_lst (κ := 0) (ai_cons (κ := 0) (ei_tup (κ := 0) (ai_cons (κ := 0) ei_str (ai_cons (κ := 0) (ei_tup (κ := 0) (ai_cons (κ := 0) ei_int (ai_cons (κ := 0) ei_int ai_nil))) (ai_cons (κ := 0) ei_str ai_nil)))) (ai_cons (κ := 0) (ei_tup (κ := 0) (ai_cons (κ := 0) ei_str (ai_cons (κ := 0) (ei_tup (κ := 0) (ai_cons (κ := 0) ei_bl (ai_cons (κ := 0) ei_int ai_nil))) (ai_cons (κ := 0) ei_str ai_nil)))) (ai_cons (κ := 0) (ei_tup (κ := 0) (ai_cons (κ := 0) ei_str (ai_cons (κ := 0) (xV 3) (ai_cons (κ := 0) (ei_bin op_addX lk_addX (oe (xS 4)) (oe ei_str)) ai_nil)))) (ai_cons (κ := 0) ei_str ai_nil)))))))))) ci_nil)) (cm_r (Γ' := [1, 0, 0, 0, 0, 0]) 0 0 0 1)))))))))
theorem ok__law_caught (T : Txt P w K mg A) : FnG P w K mg base (L2.CX P w) 8 A.a__law_caught A.d__law_caught ["door", "args"] (spI (GG K A cl) sg__law_caught F__law_caught) :=
  fn_im (Γ' := [0, 0, 0, 0, 0, 0]) T.F__law_caught sc__law_caught rfl (by decide) (by decide) (.inl (by decide)) (fun cdv B outer s H E hgd hr => by
    have tk : Takes (cxOf (L2.CX P w) P w K mg base ["door", "args", "caught", "kept", "error", "kinds"] "_law_caught" (defScope s__law_caught) A.a__law_caught cdv B outer s H E) (fun c d _ H => E c d H) := takes_of rfl rfl rfl rfl
    have hW : WFree (fun c d _ H => E c d H) := wfree_of
    have ps : PassesOwn (model P w) (cxOf (L2.CX P w) P w K mg base ["door", "args", "caught", "kept", "error", "kinds"] "_law_caught" (defScope s__law_caught) A.a__law_caught cdv B outer s H E).A (cxOf (L2.CX P w) P w K mg base ["door", "args", "caught", "kept", "error", "kinds"] "_law_caught" (defScope s__law_caught) A.a__law_caught cdv B outer s H E).env (cxOf (L2.CX P w) P w K mg base ["door", "args", "caught", "kept", "error", "kinds"] "_law_caught" (defScope s__law_caught) A.a__law_caught cdv B outer s H E).xe := passes_of rfl
    exact (ss_cons (si_par (i := 2) (j := 3) rfl hW sc__law_caught.nd rfl rfl rfl rfl (ai_cons (κ := 0) ei_non (ai_cons (κ := 0) (ei_b1 (call_repr hgd (hu64 hr)) (lk_repr rfl) (by rfl) T.b_repr bt_repr (oe (xV 1))) ai_nil)))
      (ss_cons (si_try (κ := 0) (i := 4) (j := 2) rfl rfl rfl sc__law_caught.nd rfl rfl rfl rfl ⟨rfl, by decide, Or.inl T.k_BoxError⟩ takes0 (te_all T) (by decide) (by decide) (by decide) rfl rfl (by decide) (by intro l h; rcases h with rfl | rfl <;> rfl) (fun W pn xe tk => (ei_if (ti_cmp (op_eqD (hu64 hr)) (lk_eq rfl) rfl (oe (xV 0)) (oe ei_int)) (ei_call (sg := sg_boxes_below) (ok_boxes_below T) hgd (hr.mono (by decide)) (by rfl) T.g_boxes_below T.F_boxes_below.kp (kb_boxes_below_1 T) tk (ci_cons (c1_e (κ := 0) (ei_ix rfl (oe (xV 1)) (oe ei_int) (by intro _ _; rfl))) ci_nil) cm_n) (ei_low (κ := 1) (κ' := 0) (ei_call (sg := sg_ways_by_boxes) (ok_ways_by_boxes T) hgd (hr.mono (by decide)) (by rfl) T.g_ways_by_boxes T.F_ways_by_boxes.kp (kb_ways_by_boxes_2 T) tk (ci_cons (c1_e (κ := 0) (ei_ix rfl (oe (xV 1)) (oe ei_int) (by intro _ _; rfl))) (ci_cons (c1_e (κ := 0) (ei_ix rfl (oe (xV 1)) (oe ei_int) (by intro _ _; rfl))) ci_nil)) cm_n)))))
      (ss_cons (si_if (ti_of_wi (wi_or (ti_cmp op_isN lk_isN rfl (oe (xV 2)) (oe ei_non)) (wi_or1 (ti_cmp (op_neD (hu64 hr)) (lk_ne rfl) rfl (oe (ei_b1 (call_repr hgd (hu64 hr)) (lk_repr rfl) (by rfl) T.b_repr bt_repr (oe (xV 1)))) (oe (xS 3)))))) (ss_one (si_ret ei_str)) ss_nil)
      (ss_cons (sSet (κ := 0) 5 sc__law_caught.nd hW (ei_low (κ := 1) (κ' := 0) (ei_lst (κ := 0) (ai_cons (κ := 0) (ei_isX (is_InvalidWay T) T.nk_InvalidWay (by rfl) T.b_isinstance bt_isinstance (by rfl) T.k_InvalidWay (oe (xV 2))) (ai_cons (κ := 0) (ei_isX (is_InvalidNumber T) T.nk_InvalidNumber (by rfl) T.b_isinstance bt_isinstance (by rfl) T.k_InvalidNumber (oe (xV 2))) ai_nil)))))
      (ss_one (si_ret (ei_b1 (call_repr hgd (hu64 hr)) (lk_repr rfl) (by rfl) T.b_repr bt_repr (oe (ei_low (κ := 1) (κ' := 0) (ei_cat (oi_v (xV 5)) (oi_v (ei_low (κ := 1) (κ' := 0) (ei_lst (κ := 0) (ai_cons (κ := 0) (ei_val (xf_all T) (xV 2)) ai_nil)))))))))))))))
theorem ok__law_below (T : Txt P w K mg A) : FnG P w K mg base (L2.CX P w) 3 A.a__law_below A.d__law_below ["word"] (spI (GG K A cl) sg__law_below F__law_below) :=
  fn_im (Γ' := [0, 0, 0, 0]) T.F__law_below sc__law_below rfl (by decide) (by decide) (.inl (by decide)) (fun cdv B outer s H E hgd hr => by
    have tk : Takes (cxOf (L2.CX P w) P w K mg base ["word", "found", "height", "sign"] "_law_below" (defScope s__law_below) A.a__law_below cdv B outer s H E) (fun c d _ H => E c d H) := takes_of rfl rfl rfl rfl
    have hW : WFree (fun c d _ H => E c d H) := wfree_of
    have ps : PassesOwn (model P w) (cxOf (L2.CX P w) P w K mg base ["word", "found", "height", "sign"] "_law_below" (defScope s__law_below) A.a__law_below cdv B outer s H E).A (cxOf (L2.CX P w) P w K mg base ["word", "found", "height", "sign"] "_law_below" (defScope s__law_below) A.a__law_below cdv B outer s H E).env (cxOf (L2.CX P w) P w K mg base ["word", "found", "height", "sign"] "_law_below" (defScope s__law_below) A.a__law_below cdv B outer s H E).xe := passes_of rfl
    exact (ss_cons (si_asg hW (ei_tup (κ := 0) (ai_cons (κ := 0) ei_int (ai_cons (κ := 0) ei_int ai_nil))) (tg_tup rfl (tgs_cons (tgN 1 sc__law_below.nd) (tgs_cons (tgN 2 sc__law_below.nd) tgs_nil))))
      (ss_cons (si_for ps rfl hW (ii_any rfl (oi_v (xS 0))) (tgN 3 sc__law_below.nd) (ss_one (si_par (i := 1) (j := 2) rfl hW sc__law_below.nd rfl rfl rfl rfl (ai_cons (κ := 0) (ei_bin op_addX lk_addX (oe (xS 1)) (oe (ei_bin op_mulX lk_mulX (oe (xS 2)) (oe (ei_t1 call_int1 lk_int (by rfl) T.b_int bt_int (oe (ei_cmp (op_eqD (hu64 hr)) (lk_eq rfl) rfl (oe (xS 3)) (oe ei_str)))))))) (ai_cons (κ := 0) (ei_bin op_addX lk_addX (oe (xS 2)) (oe (ei_t1 call_int1 lk_int (by rfl) T.b_int bt_int (oe (ei_cmp (op_eqD (hu64 hr)) (lk_eq rfl) rfl (oe (xS 3)) (oe ei_str)))))) ai_nil)))))
      (ss_one (si_ret (xS 1))))))
theorem ok__law_times (T : Txt P w K mg A) : FnG P w K mg base (L2.CX P w) 3 A.a__law_times A.d__law_times ["numbers", "power"] (spI (GG K A cl) sg__law_times F__law_times) :=
  fn_im (Γ' := [0, 0, 0, 0, 0]) T.F__law_times sc__law_times rfl (by decide) (by decide) (.inl (by decide)) (fun cdv B outer s H E hgd hr => by
    have tk : Takes (cxOf (L2.CX P w) P w K mg base ["numbers", "power", "found", "at", "one"] "_law_times" (defScope s__law_times) A.a__law_times cdv B outer s H E) (fun c d _ H => E c d H) := takes_of rfl rfl rfl rfl
    have hW : WFree (fun c d _ H => E c d H) := wfree_of
    have ps : PassesOwn (model P w) (cxOf (L2.CX P w) P w K mg base ["numbers", "power", "found", "at", "one"] "_law_times" (defScope s__law_times) A.a__law_times cdv B outer s H E).A (cxOf (L2.CX P w) P w K mg base ["numbers", "power", "found", "at", "one"] "_law_times" (defScope s__law_times) A.a__law_times cdv B outer s H E).env (cxOf (L2.CX P w) P w K mg base ["numbers", "power", "found", "at", "one"] "_law_times" (defScope s__law_times) A.a__law_times cdv B outer s H E).xe := passes_of rfl
    exact (ss_cons (sSet (κ := 0) 2 sc__law_times.nd hW (ei_low (κ := 1) (κ' := 0) (ei_cat (oi_v (xV 0)) (oi_v (ei_low (κ := 1) (κ' := 0) (ei_rep (oi_v (ei_low (κ := 1) (κ' := 0) (ei_lst (κ := 0) (ai_cons (κ := 0) ei_int ai_nil)))) (oe (xS 1))))))))
      (ss_one (si_ret (ei_low (κ := 1) (κ' := 0) (ei_lc (own := [("at", 3), ("one", 4)]) rfl sc__law_times.nd (ii_enum (by rfl) T.b_enumerate (oi_v (xV 2))) (blkOk_by (show blkC ["numbers", "power", "found", "at", "one"] (defScope s__law_times) _ [("at", 3), ("one", 4)] = true by decide +kernel)) (fun _ _ _ _ _ => (tg_tup rfl (tgs_cons (tgN 3 sc__law_times.nd) (tgs_cons (tgN 4 sc__law_times.nd) tgs_nil)))) (fun _ _ _ _ _ => tt_nil) (fun _ _ _ _ _ => (ei_bin op_sub lk_sub (oe (xV 4)) (oe (ei_if (ti_of_wi (wi_and (ti_cmp op_ge lk_ge rfl (oe (xS 3)) (oe (xS 1))) (wi_and1 (ti_cmp op_lt lk_lt rfl (oe (ei_bin op_sub lk_sub (oe (xS 3)) (oe (xS 1)))) (oe (ei_b1 call_len (lk_len rfl) (by rfl) T.b_len bt_len (oe (xV 0)))))))) (ei_ix rfl (oe (xV 0)) (oe (ei_bin op_sub lk_sub (oe (xS 3)) (oe (xS 1)))) (by intro _ _; rfl)) ei_int))))))))))
theorem ok_law (T : Txt P w K mg A) : FnG P w K mg base (L2.CX P w) 13 A.a_law A.d_law ["script"] (spI (GG K A cl) sg_law F_law) :=
  fn_im (Γ' := [0, 0, 0, 0, 0, 0, 0, 0, 0, 0, 0, 0, 0, 0, 0, 0, 0, 0, 0, 0]) T.F_law sc_law rfl (by decide) (by decide) (.inl (by decide)) (fun cdv B outer s H E hgd hr => by
    have tk : Takes (cxOf (L2.CX P w) P w K mg base ["script", "index", "generator", "word", "way", "due", "right", "up", "counts", "told", "first", "second", "power", "asks", "wrong", "one", "boxes", "turn", "ask", "at"] "law" (defScope s_law) A.a_law cdv B outer s H E) (fun c d _ H => E c d H) := takes_of rfl rfl rfl rfl
    have hW : WFree (fun c d _ H => E c d H) := wfree_of
    have ps : PassesOwn (model P w) (cxOf (L2.CX P w) P w K mg base ["script", "index", "generator", "word", "way", "due", "right", "up", "counts", "told", "first", "second", "power", "asks", "wrong", "one", "boxes", "turn", "ask", "at"] "law" (defScope s_law) A.a_law cdv B outer s H E).A (cxOf (L2.CX P w) P w K mg base ["script", "index", "generator", "word", "way", "due", "right", "up", "counts", "told", "first", "second", "power", "asks", "wrong", "one", "boxes", "turn", "ask", "at"] "law" (defScope s_law) A.a_law cdv B outer s H E).env (cxOf (L2.CX P w) P w K mg base ["script", "index", "generator", "word", "way", "due", "right", "up", "counts", "told", "first", "second", "power", "asks", "wrong", "one", "boxes", "turn", "ask", "at"] "law" (defScope s_law) A.a_law cdv B outer s H E).xe := passes_of rfl
    exact (ss_cons (si_for ps rfl hW (ii_rng1 (by rfl) T.b_range (oe ei_int)) (tgN 1 sc_law.nd) (ss_cons (sSet (κ := 1) (Γ1 := [0, 0, 0, 0, 0, 0, 0, 0, 0, 0, 0, 0, 0, 0, 0, 0, 0, 0, 0, 0]) 2 sc_law.nd hW (ei_call (sg := sg__law_generator) (ok__law_generator T) hgd (hr.mono (by decide)) (by rfl) T.g__law_generator T.F__law_generator.kp (kb_law_generator_2 T) tk (ci_cons (c1_e (κ := 0) (xV 0)) (ci_cons (c1_e (κ := 0) (xS 1)) ci_nil)) cm_n))
      (ss_cons (sSet (κ := 0) 3 sc_law.nd hW (ei_join (oe ei_str) (oe (ei_low (κ := 1) (κ' := 0) (ei_lc (own := [("turn", 17)]) rfl sc_law.nd (ii_rng1 (by rfl) T.b_range (oe (ei_call (sg := sg__law_random) (ok__law_random T) hgd (hr.mono (by decide)) (by rfl) T.g__law_random T.F__law_random.kp (kb_law_random_2 T) tk (ci_cons (xR (κ := 1) 2) (ci_cons (c1_e (κ := 0) ei_int) ci_nil)) (cm_r (Γ' := [0, 0, 1, 0, 0, 0, 0, 0, 0, 0, 0, 0, 0, 0, 0, 0, 0, 0, 0, 0]) 2 0 0 1)))) (blkOk_by (show blkC ["script", "index", "generator", "word", "way", "due", "right", "up", "counts", "told", "first", "second", "power", "asks", "wrong", "one", "boxes", "turn", "ask", "at"] (defScope s_law) _ [("turn", 17)] = true by decide +kernel)) (fun _ _ _ _ _ => (tgN 17 sc_law.nd)) (fun _ _ _ _ _ => tt_nil) (fun _ _ _ _ _ => by have tk := @takesN; exact (ei_call (sg := sg__law_pick) (ok__law_pick T) hgd (hr.mono (by decide)) (by rfl) T.g__law_pick T.F__law_pick.kp (kb_law_pick_2 T) tk (ci_cons (xR (κ := 1) 2) (ci_cons (c1_e (κ := 0) (ei_low (κ := 1) (κ' := 0) (ei_lst (κ := 0) (ai_cons (κ := 0) ei_str (ai_cons (κ := 0) ei_str ai_nil))))) ci_nil)) (cm_r (Γ' := [0, 0, 1, 0, 0, 0, 0, 0, 0, 0, 0, 0, 0, 0, 0, 0, 0, 0, 0, 0]) 2 0 0 1))))))))
      (ss_cons (si_asg hW (ei_tup (κ := 0) (ai_cons (κ := 0) (ei_tup (κ := 0) (ai_cons (κ := 0) ei_str (ai_cons (κ := 0) (ei_tup (κ := 0) (ai_cons (κ := 0) ei_int (ai_cons (κ := 0) ei_int ai_nil))) (ai_cons (κ := 0) (xS 3) ai_nil)))) (ai_cons (κ := 0) (ei_call (sg := sg__law_below) (ok__law_below T) hgd (hr.mono (by decide)) (by rfl) T.g__law_below T.F__law_below.kp (kb_law_below_1 T) tk (ci_cons (c1_e (κ := 0) (xS 3)) ci_nil) cm_n) ai_nil))) (tg_tup rfl (tgs_cons (tgN 4 sc_law.nd) (tgs_cons (tgN 5 sc_law.nd) tgs_nil))))
      (ss_cons (si_if (ti_not (ti_val (κ := 0) (ei_call (sg := sg__law_exact) (ok__law_exact T 8) hgd (hr.mono (by decide)) (by rfl) T.g__law_exact T.F__law_exact.kp (kb_law_exact_2 T) tk (ci_cons (c1_e (κ := 0) (ei_low (κ := 1) (κ' := 0) (ei_lst (κ := 0) (ai_cons (κ := 0) (xS 5) (ai_cons (κ := 0) (xS 5) ai_nil))))) (ci_cons (c1_e (κ := 0) (ei_low (κ := 1) (κ' := 0) (ei_lst (κ := 0) (ai_cons (κ := 0) (ei_call (sg := sg_boxes_below) (ok_boxes_below T) hgd (hr.mono (by decide)) (by rfl) T.g_boxes_below T.F_boxes_below.kp (kb_boxes_below_1 T) tk (ci_cons (c1_e (κ := 0) (xV 4)) ci_nil) cm_n) (ai_cons (κ := 0) (ei_callK0 (sg := sg_boxes_below) (ok_boxes_below T) hgd (hr.mono (by decide)) (by rfl) T.g_boxes_below T.F_boxes_below.kp (kb_boxes_below_0_way T) tk (ki_cons (c1_e (κ := 0) (xV 4)) ki_nil) cm_n) ai_nil))))) ci_nil)) cm_n))) (ss_one (si_ret ei_bl)) ss_nil)
      (ss_cons (si_par (i := 6) (j := 7) rfl hW sc_law.nd rfl rfl rfl rfl (ai_cons (κ := 0) (ei_call (sg := sg__law_random) (ok__law_random T) hgd (hr.mono (by decide)) (by rfl) T.g__law_random T.F__law_random.kp (kb_law_random_2 T) tk (ci_cons (xR (κ := 1) 2) (ci_cons (c1_e (κ := 0) ei_int) ci_nil)) (cm_r (Γ' := [0, 0, 1, 0, 0, 0, 0, 0, 0, 0, 0, 0, 0, 0, 0, 0, 0, 0, 0, 0]) 2 0 0 1)) (ai_cons (κ := 0) (ei_call (sg := sg__law_random) (ok__law_random T) hgd (hr.mono (by decide)) (by rfl) T.g__law_random T.F__law_random.kp (kb_law_random_2 T) tk (ci_cons (xR (κ := 1) 2) (ci_cons (c1_e (κ := 0) ei_int) ci_nil)) (cm_r (Γ' := [0, 0, 1, 0, 0, 0, 0, 0, 0, 0, 0, 0, 0, 0, 0, 0, 0, 0, 0, 0]) 2 0 0 1)) ai_nil)))
      (ss_cons (sSet (κ := 0) 8 sc_law.nd hW (ei_low (κ := 1) (κ' := 0) (ei_lc (own := [("one", 15)]) rfl sc_law.nd (ii_any rfl (oi_v (ei_call (sg := sg__law_words) (ok__law_words T) hgd (hr.mono (by decide)) (by rfl) T.g__law_words T.F__law_words.kp (kb_law_words_2 T) tk (ci_cons (c1_e (κ := 0) (xS 6)) (ci_cons (c1_e (κ := 0) (xS 7)) ci_nil)) cm_n))) (blkOk_by (show blkC ["script", "index", "generator", "word", "way", "due", "right", "up", "counts", "told", "first", "second", "power", "asks", "wrong", "one", "boxes", "turn", "ask", "at"] (defScope s_law) _ [("one", 15)] = true by decide +kernel)) (fun _ _ _ _ _ => (tgN 15 sc_law.nd)) (fun _ _ _ _ _ => tt_nil) (fun _ _ _ _ _ => by have tk := @takesN; exact (ei_call (sg := sg__law_below) (ok__law_below T) hgd (hr.mono (by decide)) (by rfl) T.g__law_below T.F__law_below.kp (kb_law_below_1 T) tk (ci_cons (c1_e (κ := 0) (xV 15)) ci_nil) cm_n)))))
      (ss_cons (sSet (κ := 0) 5 sc_law.nd hW (ei_low (κ := 1) (κ' := 0) (ei_lc (own := [("boxes", 16)]) rfl sc_law.nd (ii_rng1 (by rfl) T.b_range (oe (ei_bin op_addX lk_addX (oe (ei_bin op_mulX lk_mulX (oe (xS 6)) (oe (xS 7)))) (oe ei_int)))) (blkOk_by (show blkC ["script", "index", "generator", "word", "way", "due", "right", "up", "counts", "told", "first", "second", "power", "asks", "wrong", "one", "boxes", "turn", "ask", "at"] (defScope s_law) _ [("boxes", 16)] = true by decide +kernel)) (fun _ _ _ _ _ => (tgN 16 sc_law.nd)) (fun _ _ _ _ _ => tt_nil) (fun _ _ _ _ _ => (ei_b1 call_len (lk_len rfl) (by rfl) T.b_len bt_len (oe (ei_low (κ := 1) (κ' := 0) (ei_lc (own := [("one", 15)]) rfl sc_law.nd (ii_any rfl (oi_v (xV 8))) (blkOk_by (show blkC ["script", "index", "generator", "word", "way", "due", "right", "up", "counts", "told", "first", "second", "power", "asks", "wrong", "one", "boxes", "turn", "ask", "at"] _ _ [("one", 15)] = true by rfl)) (fun _ _ _ _ _ => (tgN 15 sc_law.nd)) (fun _ _ _ _ _ => (tt_one (ti_cmp (op_eqD (hu64 hr)) (lk_eq rfl) rfl (oe (xV 15)) (oe (xS 16))))) (fun _ _ _ _ _ => (xV 15))))))))))
      (ss_cons (sSet (κ := 1) (Γ1 := [0, 0, 1, 0, 0, 0, 0, 0, 0, 0, 0, 0, 0, 0, 0, 0, 0, 0, 0, 0]) 9 sc_law.nd hW (ei_call (sg := sg_ways_by_boxes) (ok_ways_by_boxes T) hgd (hr.mono (by decide)) (by rfl) T.g_ways_by_boxes T.F_ways_by_boxes.kp (kb_ways_by_boxes_2 T) tk (ci_cons (c1_e (κ := 0) (xS 6)) (ci_cons (c1_e (κ := 0) (xS 7)) ci_nil)) cm_n))
      (ss_cons (si_if (ti_of_wi (wi_or (ti_not (ti_val (κ := 0) (ei_call (sg := sg__law_exact) (ok__law_exact T 8) hgd (hr.mono (by decide)) (by rfl) T.g__law_exact T.F__law_exact.kp (kb_law_exact_2 T) tk (ci_cons (c1_e (κ := 0) (ei_low (κ := 1) (κ' := 0) (ei_lst (κ := 0) (ai_cons (κ := 0) (xV 5) (ai_cons (κ := 0) (xV 5) (ai_cons (κ := 0) (xV 5) (ai_cons (κ := 0) (ei_low (κ := 1) (κ' := 0) (ei_rev (oi_v (xV 5)))) ai_nil))))))) (ci_cons (c1_e (κ := 0) (ei_low (κ := 1) (κ' := 0) (ei_lst (κ := 0) (ai_cons (κ := 0) (xL 9) (ai_cons (κ := 0) (ei_low (κ := 1) (κ' := 0) (ei_callK0 (sg := sg_ways_by_boxes) (ok_ways_by_boxes T) hgd (hr.mono (by decide)) (by rfl) T.g_ways_by_boxes T.F_ways_by_boxes.kp (kb_ways_by_boxes_0_up_right T) tk (ki_cons (c1_e (κ := 0) (xS 7)) (ki_cons (c1_e (κ := 0) (xS 6)) ki_nil)) cm_n)) (ai_cons (κ := 0) (ei_low (κ := 1) (κ' := 0) (ei_call (sg := sg_ways_by_boxes) (ok_ways_by_boxes T) hgd (hr.mono (by decide)) (by rfl) T.g_ways_by_boxes T.F_ways_by_boxes.kp (kb_ways_by_boxes_2 T) tk (ci_cons (c1_e (κ := 0) (xS 7)) (ci_cons (c1_e (κ := 0) (xS 6)) ci_nil)) cm_n)) (ai_cons (κ := 0) (xV 5) ai_nil))))))) ci_nil)) cm_n))) (wi_or1 (ti_not (ti_val (κ := 0) (ei_call (sg := sg__law_own) (ok__law_own T) hgd (hr.mono (by decide)) (by rfl) T.g__law_own T.F__law_own.kp (kb_law_own_3 T) tk (ci_cons (xR (κ := 1) 2) (ci_cons (c1_e (κ := 1) (xM (κ := 1) 9)) (ci_cons (c1_e (κ := 0) (ei_low (κ := 1) (κ' := 0) (ei_lst (κ := 0) ai_nil))) ci_nil))) (cm_r (Γ' := [0, 0, 1, 0, 0, 0, 0, 0, 0, 1, 0, 0, 0, 0, 0, 0, 0, 0, 0, 0]) 2 0 0 1))))))) (ss_one (si_ret ei_bl)) ss_nil)
      (ss_cons (si_if (ti_of_wi (wi_or (ti_cmp (op_neD (hu64 hr)) (lk_ne rfl) rfl (oe (ei_b1 (cr_sum rfl) lk_sum (by rfl) T.b_sum bt_sum (oe (xV 5)))) (oe (ei_call (sg := sg__law_chosen) (ok__law_chosen T) hgd (hr.mono (by decide)) (by rfl) T.g__law_chosen T.F__law_chosen.kp (kb_law_chosen_2 T) tk (ci_cons (c1_e (κ := 0) (ei_bin op_addX lk_addX (oe (xS 6)) (oe (xS 7)))) (ci_cons (c1_e (κ := 0) (xS 7)) ci_nil)) cm_n))) (wi_or1 (ti_cmp (op_neD (hu64 hr)) (lk_ne rfl) rfl (oe (ei_low (κ := 1) (κ' := 0) (ei_lc (own := [("at", 19)]) rfl sc_law.nd (ii_rng2 (by rfl) T.b_range (oe ei_int) (oe (ei_bin op_addX lk_addX (oe (ei_bin op_fdivN lk_div (oe (ei_b1 call_len (lk_len rfl) (by rfl) T.b_len bt_len (oe (xV 5)))) (oe ei_int))) (oe ei_int)))) (blkOk_by (show blkC ["script", "index", "generator", "word", "way", "due", "right", "up", "counts", "told", "first", "second", "power", "asks", "wrong", "one", "boxes", "turn", "ask", "at"] (defScope s_law) _ [("at", 19)] = true by decide +kernel)) (fun _ _ _ _ _ => (tgN 19 sc_law.nd)) (fun _ _ _ _ _ => (tt_one (ti_cmp op_lt lk_lt rfl (oe (ei_ix rfl (oe (xV 5)) (oe (xS 19)) (by intro _ _; rfl))) (oe (ei_ix rfl (oe (xV 5)) (oe (ei_bin op_sub lk_sub (oe (xS 19)) (oe ei_int))) (by intro _ _; rfl)))))) (fun _ _ _ _ _ => (xS 19))))) (oe (ei_low (κ := 1) (κ' := 0) (ei_lst (κ := 0) ai_nil))))))) (ss_one (si_ret ei_bl)) ss_nil)
      (ss_cons (si_par (i := 10) (j := 11) rfl hW sc_law.nd rfl rfl rfl rfl (ai_cons (κ := 0) (xV 5) (ai_cons (κ := 0) (ei_low (κ := 1) (κ' := 0) (ei_lst (κ := 0) (ai_cons (κ := 0) ei_int ai_nil))) ai_nil)))
      (ss_cons (si_for ps rfl hW (ii_rng2 (by rfl) T.b_range (oe ei_int) (oe (ei_bin op_addX lk_addX (oe (xS 7)) (oe ei_int)))) (tgN 12 sc_law.nd) (ss_one (si_par (i := 10) (j := 11) rfl hW sc_law.nd rfl rfl rfl rfl (ai_cons (κ := 0) (ei_call (sg := sg__law_times) (ok__law_times T) hgd (hr.mono (by decide)) (by rfl) T.g__law_times T.F__law_times.kp (kb_law_times_2 T) tk (ci_cons (c1_e (κ := 0) (xV 10)) (ci_cons (c1_e (κ := 0) (xS 12)) ci_nil)) cm_n) (ai_cons (κ := 0) (ei_call (sg := sg__law_times) (ok__law_times T) hgd (hr.mono (by decide)) (by rfl) T.g__law_times T.F__law_times.kp (kb_law_times_2 T) tk (ci_cons (c1_e (κ := 0) (xV 11)) (ci_cons (c1_e (κ := 0) (ei_bin op_addX lk_addX (oe (xS 6)) (oe (xS 12)))) ci_nil)) cm_n) ai_nil)))))
      (ss_cons (si_if (ti_cmp (op_neD (hu64 hr)) (lk_ne rfl) rfl (oe (xV 10)) (oe (xV 11))) (ss_one (si_ret ei_bl)) ss_nil)
      (ss_cons (sSet (κ := 1) (Γ1 := [0, 0, 1, 0, 0, 0, 0, 0, 0, 1, 0, 0, 0, 0, 0, 0, 0, 0, 0, 0]) 13 sc_law.nd hW (ei_lst (κ := 0) ai_nil))
      (ss_cons (si_for ps rfl hW (ii_any rfl (oi_v (ei_low (κ := 1) (κ' := 0) (ei_lst (κ := 0) (ai_cons (κ := 0) ei_non (ai_cons (κ := 0) (ei_bin op_sub lk_sub (oe ei_int) (oe ei_int)) (ai_cons (κ := 0) ei_int (ai_cons (κ := 0) ei_bl (ai_cons (κ := 0) ei_str (ai_cons (κ := 0) (ei_low (κ := 1) (κ' := 0) (ei_lst (κ := 0) (ai_cons (κ := 0) ei_int ai_nil))) ai_nil)))))))))) (tgN 14 sc_law.nd) (ss_one (sSet (κ := 1) (Γ1 := [0, 0, 1, 0, 0, 0, 0, 0, 0, 1, 0, 0, 0, 1, 0, 0, 0, 0, 0, 0]) 13 sc_law.nd hW (ei_cat (xN 13) (oi_v (ei_low (κ := 1) (κ' := 0) (ei_lst (κ := 0) (ai_cons (κ := 0) (ei_tup (κ := 0) (ai_cons (κ := 0) ei_int (ai_cons (κ := 0) (ei_tup (κ := 0) (ai_cons (κ := 0) (xV 14) (ai_cons (κ := 0) ei_str ai_nil))) (ai_cons (κ := 0) (ei_low (κ := 1) (κ' := 0) (ei_lst (κ := 0) (ai_cons (κ := 0) ei_bl (ai_cons (κ := 0) ei_bl (ai_cons (κ := 0) (xV 14) ai_nil))))) ai_nil)))) (ai_cons (κ := 0) (ei_tup (κ := 0) (ai_cons (κ := 0) ei_int (ai_cons (κ := 0) (ei_tup (κ := 0) (ai_cons (κ := 0) (xV 14) (ai_cons (κ := 0) (xS 7) ai_nil))) (ai_cons (κ := 0) (ei_low (κ := 1) (κ' := 0) (ei_lst (κ := 0) (ai_cons (κ := 0) ei_bl (ai_cons (κ := 0) ei_bl (ai_cons (κ := 0) (xV 14) ai_nil))))) ai_nil)))) (ai_cons (κ := 0) (ei_tup (κ := 0) (ai_cons (κ := 0) ei_int (ai_cons (κ := 0) (ei_tup (κ := 0) (ai_cons (κ := 0) (xS 6) (ai_cons (κ := 0) (xV 14) ai_nil))) (ai_cons (κ := 0) (ei_low (κ := 1) (κ' := 0) (ei_lst (κ := 0) (ai_cons (κ := 0) ei_bl (ai_cons (κ := 0) ei_bl (ai_cons (κ := 0) (xV 14) ai_nil))))) ai_nil)))) ai_nil))))))))))
      (ss_cons (si_for ps rfl hW (ii_any rfl (oi_v (ei_low (κ := 1) (κ' := 0) (ei_lst (κ := 0) (ai_cons (κ := 0) (ei_call (sg := sg__law_bad_way) (ok__law_bad_way T) hgd (hr.mono (by decide)) (by rfl) T.g__law_bad_way T.F__law_bad_way.kp (kb_law_bad_way_2 T) tk (ci_cons (xR (κ := 1) 2) (ci_cons (c1_e (κ := 0) (xV 4)) ci_nil)) (cm_r (Γ' := [0, 0, 1, 0, 0, 0, 0, 0, 0, 1, 0, 0, 0, 1, 0, 0, 0, 0, 0, 0]) 2 0 0 1)) (ai_cons (κ := 0) (ei_call (sg := sg__law_bad_way) (ok__law_bad_way T) hgd (hr.mono (by decide)) (by rfl) T.g__law_bad_way T.F__law_bad_way.kp (kb_law_bad_way_2 T) tk (ci_cons (xR (κ := 1) 2) (ci_cons (c1_e (κ := 0) (xV 4)) ci_nil)) (cm_r (Γ' := [0, 0, 1, 0, 0, 0, 0, 0, 0, 1, 0, 0, 0, 1, 0, 0, 0, 0, 0, 0]) 2 0 0 1)) (ai_cons (κ := 0) (ei_tup (κ := 0) (ai_cons (κ := 0) ei_str (ai_cons (κ := 0) (ei_tup (κ := 0) (ai_cons (κ := 0) ei_int (ai_cons (κ := 0) ei_int ai_nil))) (ai_cons (κ := 0) ei_str ai_nil)))) (ai_cons (κ := 0) (ei_tup (κ := 0) (ai_cons (κ := 0) ei_str (ai_cons (κ := 0) (ei_tup (κ := 0) (ai_cons (κ := 0) ei_int (ai_cons (κ := 0) ei_int ai_nil))) (ai_cons (κ := 0) ei_str ai_nil)))) ai_nil)))))))) (tgN 14 sc_law.nd) (ss_one (si_expr (κ := 0) (ei_append (κ := 0) (i := 13) rfl (visS (by first | exact Or.inl rfl | exact Or.inr (Or.inl rfl) | exact Or.inr (Or.inr rfl))) rfl rfl (ei_tup (κ := 0) (ai_cons (κ := 0) ei_int (ai_cons (κ := 0) (ei_tup (κ := 0) (ai_cons (κ := 0) (xV 14) ai_nil)) (ai_cons (κ := 0) (ei_low (κ := 1) (κ' := 0) (ei_lst (κ := 0) (ai_cons (κ := 0) ei_bl (ai_cons (κ := 0) ei_bl (ai_cons (κ := 0) (xV 14) ai_nil))))) ai_nil))))))))
      (ss_one (si_low (Γ2 := [0, 0, 0, 0, 0, 0, 0, 0, 0, 0, 0, 0, 0, 0, 0, 0, 0, 0, 0, 0]) [(2, 0), (9, 0), (13, 0)] (si_if (ti_cmp (op_neD (hu64 hr)) (lk_ne rfl) rfl (oe (ei_low (κ := 1) (κ' := 0) (ei_lc (own := [("ask", 18)]) rfl sc_law.nd (ii_any rfl (xN 13)) (blkOk_by (show blkC ["script", "index", "generator", "word", "way", "due", "right", "up", "counts", "told", "first", "second", "power", "asks", "wrong", "one", "boxes", "turn", "ask", "at"] (defScope s_law) _ [("ask", 18)] = true by decide +kernel)) (fun _ _ _ _ _ => (tgN 18 sc_law.nd)) (fun _ _ _ _ _ => by have tk := @takesN; exact (tt_one (ti_cmp (op_neD (hu64 hr)) (lk_ne rfl) rfl (oe (ei_call (sg := sg__law_caught) (ok__law_caught T) hgd (hr.mono (by decide)) (by rfl) T.g__law_caught T.F__law_caught.kp (kb_law_caught_2 T) tk (ci_cons (c1_e (κ := 0) (ei_ix rfl (oe (xV 18)) (oe ei_int) (by intro _ _; rfl))) (ci_cons (c1_e (κ := 0) (ei_ix rfl (oe (xV 18)) (oe ei_int) (by intro _ _; rfl))) ci_nil)) cm_n)) (oe (ei_b1 (call_repr hgd (hu64 hr)) (lk_repr rfl) (by rfl) T.b_repr bt_repr (oe (ei_ix rfl (oe (xV 18)) (oe ei_int) (by intro _ _; rfl)))))))) (fun _ _ _ _ _ => (xV 18))))) (oe (ei_low (κ := 1) (κ' := 0) (ei_lst (κ := 0) ai_nil)))) (ss_one (si_ret ei_bl)) ss_nil))))))))))))))))))))
      (ss_one (si_ret (ei_and (κ1 := 0) (ei_cmp (op_eqD (hu64 hr)) (lk_eq rfl) rfl (oe (ei_ix rfl (oe (ei_low (κ := 1) (κ' := 0) (ei_call (sg := sg_ways_by_boxes) (ok_ways_by_boxes T) hgd (hr.mono (by decide)) (by rfl) T.g_ways_by_boxes T.F_ways_by_boxes.kp (kb_ways_by_boxes_2 T) tk (ci_cons (c1_e (κ := 0) ei_int) (ci_cons (c1_e (κ := 0) ei_int) ci_nil)) cm_n))) (oe ei_int) (by intro _ _; rfl))) (oe ei_int)) (ei_one (ei_cmp (op_eqD (hu64 hr)) (lk_eq rfl) rfl (oe (ei_b1 (cr_sum rfl) lk_sum (by rfl) T.b_sum bt_sum (oe (ei_low (κ := 1) (κ' := 0) (ei_call (sg := sg_ways_by_boxes) (ok_ways_by_boxes T) hgd (hr.mono (by decide)) (by rfl) T.g_ways_by_boxes T.F_ways_by_boxes.kp (kb_ways_by_boxes_2 T) tk (ci_cons (c1_e (κ := 0) ei_int) (ci_cons (c1_e (κ := 0) ei_int) ci_nil)) cm_n))))) (oe ei_int))))))))
/-! ### the head -/
theorem head_mk {h : Heap} {fa : Addr} {f0 : Addr} {od0 an0 : Option Addr} {sl0 : Array (Option Value)} {oc0 kV0 dc0 pm0 cd0 ct0 : Value}
  {f1 : Addr} {od1 an1 : Option Addr} {sl1 : Array (Option Value)} {oc1 kV1 dc1 pm1 cd1 ct1 : Value}
  {f2 : Addr} {od2 an2 : Option Addr} {sl2 : Array (Option Value)} {oc2 kV2 dc2 pm2 cd2 ct2 : Value}
  {f3 : Addr} {od3 an3 : Option Addr} {sl3 : Array (Option Value)} {oc3 kV3 dc3 pm3 cd3 ct3 : Value}
  {f4 : Addr} {od4 an4 : Option Addr} {sl4 : Array (Option Value)} {oc4 kV4 dc4 pm4 cd4 ct4 : Value}
  {f5 : Addr} {od5 an5 : Option Addr} {sl5 : Array (Option Value)} {oc5 kV5 dc5 pm5 cd5 ct5 : Value}
  {f6 : Addr} {od6 an6 : Option Addr} {sl6 : Array (Option Value)} {oc6 kV6 dc6 pm6 cd6 ct6 : Value}
  {f7 : Addr} {od7 an7 : Option Addr} {sl7 : Array (Option Value)} {oc7 kV7 dc7 pm7 cd7 ct7 : Value}
  {f8 : Addr} {od8 an8 : Option Addr} {sl8 : Array (Option Value)} {oc8 kV8 dc8 pm8 cd8 ct8 : Value}
  {f9 : Addr} {od9 an9 : Option Addr} {sl9 : Array (Option Value)} {oc9 kV9 dc9 pm9 cd9 ct9 : Value}
  {f10 : Addr} {od10 an10 : Option Addr} {sl10 : Array (Option Value)} {oc10 kV10 dc10 pm10 cd10 ct10 : Value}
  {f11 : Addr} {od11 an11 : Option Addr} {sl11 : Array (Option Value)} {oc11 kV11 dc11 pm11 cd11 ct11 : Value}
  {f12 : Addr} {od12 an12 : Option Addr} {sl12 : Array (Option Value)} {oc12 kV12 dc12 pm12 cd12 ct12 : Value}
  {f13 : Addr} {od13 an13 : Option Addr} {sl13 : Array (Option Value)} {oc13 kV13 dc13 pm13 cd13 ct13 : Value}
  {f14 : Addr} {od14 an14 : Option Addr} {sl14 : Array (Option Value)} {oc14 kV14 dc14 pm14 cd14 ct14 : Value}
  {f15 : Addr} {od15 an15 : Option Addr} {sl15 : Array (Option Value)} {oc15 kV15 dc15 pm15 cd15 ct15 : Value}
  {f16 : Addr} {od16 an16 : Option Addr} {sl16 : Array (Option Value)} {oc16 kV16 dc16 pm16 cd16 ct16 : Value}
  {f17 : Addr} {od17 an17 : Option Addr} {sl17 : Array (Option Value)} {oc17 kV17 dc17 pm17 cd17 ct17 : Value}
  {f18 : Addr} {od18 an18 : Option Addr} {sl18 : Array (Option Value)} {oc18 kV18 dc18 pm18 cd18 ct18 : Value}
  {f19 : Addr} {od19 an19 : Option Addr} {sl19 : Array (Option Value)} {oc19 kV19 dc19 pm19 cd19 ct19 : Value}
  {f20 : Addr} {od20 an20 : Option Addr} {sl20 : Array (Option Value)} {oc20 kV20 dc20 pm20 cd20 ct20 : Value}
  {f21 : Addr} {od21 an21 : Option Addr} {sl21 : Array (Option Value)} {oc21 kV21 dc21 pm21 cd21 ct21 : Value}
  {f22 : Addr} {od22 an22 : Option Addr} {sl22 : Array (Option Value)} {oc22 kV22 dc22 pm22 cd22 ct22 : Value}
  {f23 : Addr} {od23 an23 : Option Addr} {sl23 : Array (Option Value)} {oc23 kV23 dc23 pm23 cd23 ct23 : Value}
  {f24 : Addr} {od24 an24 : Option Addr} {sl24 : Array (Option Value)} {oc24 kV24 dc24 pm24 cd24 ct24 : Value}
  {t_MOST_PLACE : Tok}
  {t_MOST_SIDE : Tok}
  {t_MOST_STEPS : Tok}
  {bD bI : Addr}
  {xoc : Value} {xod xan xcdd xcld : Option Addr} {xT xcda xcc : Addr} {xoT : Obj} {xnT : Nat} {xkV xdoc xpm xct xccl xcl : Value} {xosl xccs xcsl : Array (Option Value)} {xvs : Array Value} {xfile : Str} {xtf : Tok}
  {o_InvalidNumber : Addr} {nm_InvalidNumber q_InvalidNumber : Str} {N_InvalidNumber : Addr} {bs_InvalidNumber bm_InvalidNumber sub_InvalidNumber : List Value} {sn_InvalidNumber : List Str} {ab_InvalidNumber : Bool} {col_InvalidNumber : Option Bool} {dd_InvalidNumber : Option Addr} {m0_InvalidNumber m1_InvalidNumber m2_InvalidNumber m3_InvalidNumber m5_InvalidNumber : Option Value}
  {o_InvalidWay : Addr} {nm_InvalidWay q_InvalidWay : Str} {N_InvalidWay : Addr} {bs_InvalidWay bm_InvalidWay sub_InvalidWay : List Value} {sn_InvalidWay : List Str} {ab_InvalidWay : Bool} {col_InvalidWay : Option Bool} {dd_InvalidWay : Option Addr} {m0_InvalidWay m1_InvalidWay m2_InvalidWay m3_InvalidWay m5_InvalidWay : Option Value} (X : K.In h) (G : h.Ns mainGlobals mg) (hfa : mg "law" = some (.ref fa)) (a0 : PySem.W.nsIn K mainGlobals "is_whole" = some (some (.ref f0)))
  (l0 : K.lookup f0 = some ⟨oc0, od0, .func (PySem.W.fnOf "is_whole" "is_whole" (defArgs s_is_whole) (defBody s_is_whole) (defScope s_is_whole) .none kV0 dc0 pm0 an0 cd0 ct0), sl0⟩)
  (c0 : PySem.W.codeIn K cd0 "is_whole" = true)
  (k0 : PySem.W.keepIn K (.ref f0) = true)
  (a1 : PySem.W.nsIn K mainGlobals "is_place" = some (some (.ref f1)))
  (l1 : K.lookup f1 = some ⟨oc1, od1, .func (PySem.W.fnOf "is_place" "is_place" (defArgs s_is_place) (defBody s_is_place) (defScope s_is_place) .none kV1 dc1 pm1 an1 cd1 ct1), sl1⟩)
  (c1 : PySem.W.codeIn K cd1 "is_place" = true)
  (k1 : PySem.W.keepIn K (.ref f1) = true)
  (a2 : PySem.W.nsIn K mainGlobals "end_of" = some (some (.ref f2)))
  (l2 : K.lookup f2 = some ⟨oc2, od2, .func (PySem.W.fnOf "end_of" "end_of" (defArgs s_end_of) (defBody s_end_of) (defScope s_end_of) .none kV2 dc2 pm2 an2 cd2 ct2), sl2⟩)
  (c2 : PySem.W.codeIn K cd2 "end_of" = true)
  (k2 : PySem.W.keepIn K (.ref f2) = true)
  (a3 : PySem.W.nsIn K mainGlobals "is_way_by" = some (some (.ref f3)))
  (l3 : K.lookup f3 = some ⟨oc3, od3, .func (PySem.W.fnOf "is_way_by" "is_way_by" (defArgs s_is_way_by) (defBody s_is_way_by) (defScope s_is_way_by) .none kV3 dc3 pm3 an3 cd3 ct3), sl3⟩)
  (c3 : PySem.W.codeIn K cd3 "is_way_by" = true)
  (k3 : PySem.W.keepIn K (.ref f3) = true)
  (a4 : PySem.W.nsIn K mainGlobals "words_with" = some (some (.ref f4)))
  (l4 : K.lookup f4 = some ⟨oc4, od4, .func (PySem.W.fnOf "words_with" "words_with" (defArgs s_words_with) (defBody s_words_with) (defScope s_words_with) .none kV4 dc4 pm4 an4 cd4 ct4), sl4⟩)
  (c4 : PySem.W.codeIn K cd4 "words_with" = true)
  (k4 : PySem.W.keepIn K (.ref f4) = true)
  (a5 : PySem.W.nsIn K mainGlobals "check_side" = some (some (.ref f5)))
  (l5 : K.lookup f5 = some ⟨oc5, od5, .func (PySem.W.fnOf "check_side" "check_side" (defArgs s_check_side) (defBody s_check_side) (defScope s_check_side) .none kV5 dc5 pm5 an5 cd5 ct5), sl5⟩)
  (c5 : PySem.W.codeIn K cd5 "check_side" = true)
  (k5 : PySem.W.keepIn K (.ref f5) = true)
  (a6 : PySem.W.nsIn K mainGlobals "check_from" = some (some (.ref f6)))
  (l6 : K.lookup f6 = some ⟨oc6, od6, .func (PySem.W.fnOf "check_from" "check_from" (defArgs s_check_from) (defBody s_check_from) (defScope s_check_from) .none kV6 dc6 pm6 an6 cd6 ct6), sl6⟩)
  (c6 : PySem.W.codeIn K cd6 "check_from" = true)
  (k6 : PySem.W.keepIn K (.ref f6) = true)
  (a7 : PySem.W.nsIn K mainGlobals "boxes_by" = some (some (.ref f7)))
  (l7 : K.lookup f7 = some ⟨oc7, od7, .func (PySem.W.fnOf "boxes_by" "boxes_by" (defArgs s_boxes_by) (defBody s_boxes_by) (defScope s_boxes_by) .none kV7 dc7 pm7 an7 cd7 ct7), sl7⟩)
  (c7 : PySem.W.codeIn K cd7 "boxes_by" = true)
  (k7 : PySem.W.keepIn K (.ref f7) = true)
  (a8 : PySem.W.nsIn K mainGlobals "boxes_below" = some (some (.ref f8)))
  (l8 : K.lookup f8 = some ⟨oc8, od8, .func (PySem.W.fnOf "boxes_below" "boxes_below" (defArgs s_boxes_below) (defBody s_boxes_below) (defScope s_boxes_below) .none kV8 dc8 pm8 an8 cd8 ct8), sl8⟩)
  (c8 : PySem.W.codeIn K cd8 "boxes_below" = true)
  (k8 : PySem.W.keepIn K (.ref f8) = true)
  (a9 : PySem.W.nsIn K mainGlobals "ways_by_boxes" = some (some (.ref f9)))
  (l9 : K.lookup f9 = some ⟨oc9, od9, .func (PySem.W.fnOf "ways_by_boxes" "ways_by_boxes" (defArgs s_ways_by_boxes) (defBody s_ways_by_boxes) (defScope s_ways_by_boxes) .none kV9 dc9 pm9 an9 cd9 ct9), sl9⟩)
  (c9 : PySem.W.codeIn K cd9 "ways_by_boxes" = true)
  (k9 : PySem.W.keepIn K (.ref f9) = true)
  (a10 : PySem.W.nsIn K mainGlobals "_law_hash" = some (some (.ref f10)))
  (l10 : K.lookup f10 = some ⟨oc10, od10, .func (PySem.W.fnOf "_law_hash" "_law_hash" (defArgs s__law_hash) (defBody s__law_hash) (defScope s__law_hash) .none kV10 dc10 pm10 an10 cd10 ct10), sl10⟩)
  (c10 : PySem.W.codeIn K cd10 "_law_hash" = true)
  (k10 : PySem.W.keepIn K (.ref f10) = true)
  (a11 : PySem.W.nsIn K mainGlobals "_law_random" = some (some (.ref f11)))
  (l11 : K.lookup f11 = some ⟨oc11, od11, .func (PySem.W.fnOf "_law_random" "_law_random" (defArgs s__law_random) (defBody s__law_random) (defScope s__law_random) .none kV11 dc11 pm11 an11 cd11 ct11), sl11⟩)
  (c11 : PySem.W.codeIn K cd11 "_law_random" = true)
  (k11 : PySem.W.keepIn K (.ref f11) = true)
  (a12 : PySem.W.nsIn K mainGlobals "_law_cell" = some (some (.ref f12)))
  (l12 : K.lookup f12 = some ⟨oc12, od12, .func (PySem.W.fnOf "_law_cell" "_law_cell" (defArgs s__law_cell) (defBody s__law_cell) (defScope s__law_cell) .none kV12 dc12 pm12 an12 cd12 ct12), sl12⟩)
  (c12 : PySem.W.codeIn K cd12 "_law_cell" = true)
  (k12 : PySem.W.keepIn K (.ref f12) = true)
  (a13 : PySem.W.nsIn K mainGlobals "_law_generator" = some (some (.ref f13)))
  (l13 : K.lookup f13 = some ⟨oc13, od13, .func (PySem.W.fnOf "_law_generator" "_law_generator" (defArgs s__law_generator) (defBody s__law_generator) (defScope s__law_generator) .none kV13 dc13 pm13 an13 cd13 ct13), sl13⟩)
  (c13 : PySem.W.codeIn K cd13 "_law_generator" = true)
  (k13 : PySem.W.keepIn K (.ref f13) = true)
  (a14 : PySem.W.nsIn K mainGlobals "_law_pick" = some (some (.ref f14)))
  (l14 : K.lookup f14 = some ⟨oc14, od14, .func (PySem.W.fnOf "_law_pick" "_law_pick" (defArgs s__law_pick) (defBody s__law_pick) (defScope s__law_pick) .none kV14 dc14 pm14 an14 cd14 ct14), sl14⟩)
  (c14 : PySem.W.codeIn K cd14 "_law_pick" = true)
  (k14 : PySem.W.keepIn K (.ref f14) = true)
  (a15 : PySem.W.nsIn K mainGlobals "_law_exact" = some (some (.ref f15)))
  (l15 : K.lookup f15 = some ⟨oc15, od15, .func (PySem.W.fnOf "_law_exact" "_law_exact" (defArgs s__law_exact) (defBody s__law_exact) (defScope s__law_exact) .none kV15 dc15 pm15 an15 cd15 ct15), sl15⟩)
  (c15 : PySem.W.codeIn K cd15 "_law_exact" = true)
  (k15 : PySem.W.keepIn K (.ref f15) = true)
  (a16 : PySem.W.nsIn K mainGlobals "_law_lists" = some (some (.ref f16)))
  (l16 : K.lookup f16 = some ⟨oc16, od16, .func (PySem.W.fnOf "_law_lists" "_law_lists" (defArgs s__law_lists) (defBody s__law_lists) (defScope s__law_lists) .none kV16 dc16 pm16 an16 cd16 ct16), sl16⟩)
  (c16 : PySem.W.codeIn K cd16 "_law_lists" = true)
  (k16 : PySem.W.keepIn K (.ref f16) = true)
  (a17 : PySem.W.nsIn K mainGlobals "_law_own" = some (some (.ref f17)))
  (l17 : K.lookup f17 = some ⟨oc17, od17, .func (PySem.W.fnOf "_law_own" "_law_own" (defArgs s__law_own) (defBody s__law_own) (defScope s__law_own) .none kV17 dc17 pm17 an17 cd17 ct17), sl17⟩)
  (c17 : PySem.W.codeIn K cd17 "_law_own" = true)
  (k17 : PySem.W.keepIn K (.ref f17) = true)
  (a18 : PySem.W.nsIn K mainGlobals "_law_words" = some (some (.ref f18)))
  (l18 : K.lookup f18 = some ⟨oc18, od18, .func (PySem.W.fnOf "_law_words" "_law_words" (defArgs s__law_words) (defBody s__law_words) (defScope s__law_words) .none kV18 dc18 pm18 an18 cd18 ct18), sl18⟩)
  (c18 : PySem.W.codeIn K cd18 "_law_words" = true)
  (k18 : PySem.W.keepIn K (.ref f18) = true)
  (a19 : PySem.W.nsIn K mainGlobals "_law_chosen" = some (some (.ref f19)))
  (l19 : K.lookup f19 = some ⟨oc19, od19, .func (PySem.W.fnOf "_law_chosen" "_law_chosen" (defArgs s__law_chosen) (defBody s__law_chosen) (defScope s__law_chosen) .none kV19 dc19 pm19 an19 cd19 ct19), sl19⟩)
  (c19 : PySem.W.codeIn K cd19 "_law_chosen" = true)
  (k19 : PySem.W.keepIn K (.ref f19) = true)
  (a20 : PySem.W.nsIn K mainGlobals "_law_bad_way" = some (some (.ref f20)))
  (l20 : K.lookup f20 = some ⟨oc20, od20, .func (PySem.W.fnOf "_law_bad_way" "_law_bad_way" (defArgs s__law_bad_way) (defBody s__law_bad_way) (defScope s__law_bad_way) .none kV20 dc20 pm20 an20 cd20 ct20), sl20⟩)
  (c20 : PySem.W.codeIn K cd20 "_law_bad_way" = true)
  (k20 : PySem.W.keepIn K (.ref f20) = true)
  (a21 : PySem.W.nsIn K mainGlobals "_law_caught" = some (some (.ref f21)))
  (l21 : K.lookup f21 = some ⟨oc21, od21, .func (PySem.W.fnOf "_law_caught" "_law_caught" (defArgs s__law_caught) (defBody s__law_caught) (defScope s__law_caught) .none kV21 dc21 pm21 an21 cd21 ct21), sl21⟩)
  (c21 : PySem.W.codeIn K cd21 "_law_caught" = true)
  (k21 : PySem.W.keepIn K (.ref f21) = true)
  (a22 : PySem.W.nsIn K mainGlobals "_law_below" = some (some (.ref f22)))
  (l22 : K.lookup f22 = some ⟨oc22, od22, .func (PySem.W.fnOf "_law_below" "_law_below" (defArgs s__law_below) (defBody s__law_below) (defScope s__law_below) .none kV22 dc22 pm22 an22 cd22 ct22), sl22⟩)
  (c22 : PySem.W.codeIn K cd22 "_law_below" = true)
  (k22 : PySem.W.keepIn K (.ref f22) = true)
  (a23 : PySem.W.nsIn K mainGlobals "_law_times" = some (some (.ref f23)))
  (l23 : K.lookup f23 = some ⟨oc23, od23, .func (PySem.W.fnOf "_law_times" "_law_times" (defArgs s__law_times) (defBody s__law_times) (defScope s__law_times) .none kV23 dc23 pm23 an23 cd23 ct23), sl23⟩)
  (c23 : PySem.W.codeIn K cd23 "_law_times" = true)
  (k23 : PySem.W.keepIn K (.ref f23) = true)
  (a24 : PySem.W.nsIn K mainGlobals "law" = some (some (.ref f24)))
  (l24 : K.lookup f24 = some ⟨oc24, od24, .func (PySem.W.fnOf "law" "law" (defArgs s_law) (defBody s_law) (defScope s_law) .none kV24 dc24 pm24 an24 cd24 ct24), sl24⟩)
  (c24 : PySem.W.codeIn K cd24 "law" = true)
  (k24 : PySem.W.keepIn K (.ref f24) = true)
  (z_all : PySem.W.nsIn K mainGlobals "all" = some none)
  (z_bool : PySem.W.nsIn K mainGlobals "bool" = some none)
  (z_enumerate : PySem.W.nsIn K mainGlobals "enumerate" = some none)
  (z_int : PySem.W.nsIn K mainGlobals "int" = some none)
  (z_isinstance : PySem.W.nsIn K mainGlobals "isinstance" = some none)
  (z_len : PySem.W.nsIn K mainGlobals "len" = some none)
  (z_list : PySem.W.nsIn K mainGlobals "list" = some none)
  (z_max : PySem.W.nsIn K mainGlobals "max" = some none)
  (z_min : PySem.W.nsIn K mainGlobals "min" = some none)
  (z_range : PySem.W.nsIn K mainGlobals "range" = some none)
  (z_repr : PySem.W.nsIn K mainGlobals "repr" = some none)
  (z_str : PySem.W.nsIn K mainGlobals "str" = some none)
  (z_sum : PySem.W.nsIn K mainGlobals "sum" = some none)
  (z_tuple : PySem.W.nsIn K mainGlobals "tuple" = some none)
  (m_MOST_PLACE : PySem.W.nsIn K mainGlobals "MOST_PLACE" = some (some (.int 12 t_MOST_PLACE)))
  (m_MOST_SIDE : PySem.W.nsIn K mainGlobals "MOST_SIDE" = some (some (.int 6 t_MOST_SIDE)))
  (m_MOST_STEPS : PySem.W.nsIn K mainGlobals "MOST_STEPS" = some (some (.int 12 t_MOST_STEPS)))
  (hD : PySem.W.nsIn K mainGlobals "BoxError" = some (some (.ref bD)))
  (xI : PySem.W.findIn K (.ref bD) "__init__" = some (some (.ref bI)))
  (x1 : K.lookup bI = some ⟨xoc, xod, .func (PySem.W.fnX "__init__" "BoxError.__init__" (PySem.BoxX.iA ⟨4, 17, 4, 21⟩ ⟨4, 23, 4, 28⟩ (.Constant .none 0 ⟨4, 29, 4, 33⟩)) PySem.BoxX.iB PySem.BoxX.iS [("__class__", xcc)] (.ref xT) xkV xdoc xpm xan (.ref xcda) xct), xosl⟩)
  (x2 : PySem.W.codeIn K (.ref xcda) "BoxError.__init__" = true)
  (x3 : K.lookup xT = some xoT)
  (x4 : xoT.data = .seq #[.none] xnT)
  (x5 : K.lookup xcda = some ⟨xccl, xcdd, .fields xvs, xccs⟩)
  (x6 : xvs[2]? = some (.str xfile xtf))
  (x7 : ((P.main.file : Str) == xfile) = true)
  (x8 : K.lookup xcc = some ⟨xcl, xcld, .cell (some (.ref bD)), xcsl⟩)
  (x9 : PySem.W.isClsIn K bD = true)
  (x10 : PySem.W.nsIn K mainGlobals "super" = some none)
  (x11 : PySem.W.nsIn K cStatics "thirdparty.any" = some none)
  (x12 : (P.main.scope.names.lookup ("super" : Str)).isSome = false)
  (x13 : PySem.W.typeIn K (.ref bI) = some (.type "function"))
  (x14 : PySem.W.subIn K (.ref bD) (.type "BaseException") = some true)
  (x15 : PySem.W.hasDictIn K bD = true)
  (x16 : PySem.W.typeIn K (.ref bD) = some (.type "type"))
  (x18 : PySem.W.takesIn K (.builtin "object.__class__") = some true)
  (x17 : PySem.W.specialIn K (.builtin "object.__class__") "__get__" = some (some (.builtin "getset_descriptor.__get__")))
  (g_InvalidNumber : PySem.W.nsIn K mainGlobals "InvalidNumber" = some (some (.ref o_InvalidNumber)))
  (g1_InvalidNumber : K.lookup o_InvalidNumber = some (excClassObj nm_InvalidNumber q_InvalidNumber o_InvalidNumber N_InvalidNumber bs_InvalidNumber bm_InvalidNumber true sn_InvalidNumber sub_InvalidNumber ab_InvalidNumber col_InvalidNumber dd_InvalidNumber m0_InvalidNumber m1_InvalidNumber m2_InvalidNumber m3_InvalidNumber m5_InvalidNumber "ValueError.__new__"))
  (g2_InvalidNumber : PySem.HandSPX.refsVE bm_InvalidNumber = true)
  (g30_InvalidNumber : PySem.W.findIn K (.ref o_InvalidNumber) "__setattr__" = some (some (.builtin "object.__setattr__")))
  (g31_InvalidNumber : PySem.W.findIn K (.ref o_InvalidNumber) "__getattribute__" = some (some (.builtin "BaseException.__getattribute__")))
  (g32_InvalidNumber : PySem.W.findIn K (.ref o_InvalidNumber) "__getattr__" = some none)
  (g33_InvalidNumber : PySem.W.findIn K (.ref o_InvalidNumber) "value" = some none)
  (g34_InvalidNumber : PySem.W.findIn K (.ref o_InvalidNumber) "__init__" = some (some (.ref bI)))
  (g35_InvalidNumber : PySem.W.findIn K (.ref o_InvalidNumber) "__class__" = some (some (.builtin "object.__class__")))
  (g4_InvalidNumber : PySem.W.subIn K (.ref o_InvalidNumber) (.type "BaseException") = some true)
  (g5_InvalidNumber : PySem.W.typeIn K (.ref o_InvalidNumber) = some (.type "type"))
  (g6_InvalidNumber : PySem.W.keepIn K (.ref o_InvalidNumber) = true)
  (g7_InvalidNumber : PySem.W.mroIn K o_InvalidNumber (.ref bD) = some true)
  (g8_InvalidNumber : PySem.W.ks_superIn K o_InvalidNumber bD "__init__" = some (some (.builtin "ValueError.__init__")))
  (g9_InvalidNumber : PySem.W.subIn K (.ref o_InvalidNumber) (.type "ValueError") = some true)
  (ga_InvalidNumber : PySem.W.hasDictIn K o_InvalidNumber = true)
  (gb_InvalidNumber : PySem.W.isClsIn K o_InvalidNumber = true)
  (gc_InvalidNumber : PySem.W.subIn K (.ref o_InvalidNumber) (.ref bD) = some true)
  (ge_InvalidNumber : PySem.W.mroIn K o_InvalidNumber (.type "object") = some true)
  (gd_InvalidNumber : PySem.W.kitOne K (.type "NoneType") (.ref o_InvalidNumber) = some false)
  (g_InvalidWay : PySem.W.nsIn K mainGlobals "InvalidWay" = some (some (.ref o_InvalidWay)))
  (g1_InvalidWay : K.lookup o_InvalidWay = some (excClassObj nm_InvalidWay q_InvalidWay o_InvalidWay N_InvalidWay bs_InvalidWay bm_InvalidWay true sn_InvalidWay sub_InvalidWay ab_InvalidWay col_InvalidWay dd_InvalidWay m0_InvalidWay m1_InvalidWay m2_InvalidWay m3_InvalidWay m5_InvalidWay "ValueError.__new__"))
  (g2_InvalidWay : PySem.HandSPX.refsVE bm_InvalidWay = true)
  (g30_InvalidWay : PySem.W.findIn K (.ref o_InvalidWay) "__setattr__" = some (some (.builtin "object.__setattr__")))
  (g31_InvalidWay : PySem.W.findIn K (.ref o_InvalidWay) "__getattribute__" = some (some (.builtin "BaseException.__getattribute__")))
  (g32_InvalidWay : PySem.W.findIn K (.ref o_InvalidWay) "__getattr__" = some none)
  (g33_InvalidWay : PySem.W.findIn K (.ref o_InvalidWay) "value" = some none)
  (g34_InvalidWay : PySem.W.findIn K (.ref o_InvalidWay) "__init__" = some (some (.ref bI)))
  (g35_InvalidWay : PySem.W.findIn K (.ref o_InvalidWay) "__class__" = some (some (.builtin "object.__class__")))
  (g4_InvalidWay : PySem.W.subIn K (.ref o_InvalidWay) (.type "BaseException") = some true)
  (g5_InvalidWay : PySem.W.typeIn K (.ref o_InvalidWay) = some (.type "type"))
  (g6_InvalidWay : PySem.W.keepIn K (.ref o_InvalidWay) = true)
  (g7_InvalidWay : PySem.W.mroIn K o_InvalidWay (.ref bD) = some true)
  (g8_InvalidWay : PySem.W.ks_superIn K o_InvalidWay bD "__init__" = some (some (.builtin "ValueError.__init__")))
  (g9_InvalidWay : PySem.W.subIn K (.ref o_InvalidWay) (.type "ValueError") = some true)
  (ga_InvalidWay : PySem.W.hasDictIn K o_InvalidWay = true)
  (gb_InvalidWay : PySem.W.isClsIn K o_InvalidWay = true)
  (gc_InvalidWay : PySem.W.subIn K (.ref o_InvalidWay) (.ref bD) = some true)
  (ge_InvalidWay : PySem.W.mroIn K o_InvalidWay (.type "object") = some true)
  (gd_InvalidWay : PySem.W.kitOne K (.type "NoneType") (.ref o_InvalidWay) = some false)
  (q_InvalidNumber_InvalidNumber : PySem.W.kitOne K (.ref o_InvalidNumber) (.ref o_InvalidNumber) = some (("InvalidNumber" : Str) == "InvalidNumber"))
  (q_InvalidNumber_InvalidWay : PySem.W.kitOne K (.ref o_InvalidNumber) (.ref o_InvalidWay) = some (("InvalidNumber" : Str) == "InvalidWay"))
  (q_InvalidWay_InvalidNumber : PySem.W.kitOne K (.ref o_InvalidWay) (.ref o_InvalidNumber) = some (("InvalidWay" : Str) == "InvalidNumber"))
  (q_InvalidWay_InvalidWay : PySem.W.kitOne K (.ref o_InvalidWay) (.ref o_InvalidWay) = some (("InvalidWay" : Str) == "InvalidWay")) :
  ∃ (fd : FuncData) (Gw : GI), Gw.K = K ∧ (∀ (s : Shared) (u : Value), BindsTo s fd ⟨[u], []⟩ [("script", u)]) ∧ ∀ base : Heap, K.In base → base.Ns mainGlobals mg → FnG P w K mg base (L2.CX P w) 13 fa fd ["script"] (spI Gw ⟨[0], [], 0⟩ F_law) := by
  have e := hfa.symm.trans (PySem.W.mg_of X G a24)
  cases e
  have T : Txt P w K mg ⟨f0, (PySem.W.fnOf "is_whole" "is_whole" (defArgs s_is_whole) (defBody s_is_whole) (defScope s_is_whole) .none kV0 dc0 pm0 an0 cd0 ct0), f1, (PySem.W.fnOf "is_place" "is_place" (defArgs s_is_place) (defBody s_is_place) (defScope s_is_place) .none kV1 dc1 pm1 an1 cd1 ct1), f2, (PySem.W.fnOf "end_of" "end_of" (defArgs s_end_of) (defBody s_end_of) (defScope s_end_of) .none kV2 dc2 pm2 an2 cd2 ct2), f3, (PySem.W.fnOf "is_way_by" "is_way_by" (defArgs s_is_way_by) (defBody s_is_way_by) (defScope s_is_way_by) .none kV3 dc3 pm3 an3 cd3 ct3), f4, (PySem.W.fnOf "words_with" "words_with" (defArgs s_words_with) (defBody s_words_with) (defScope s_words_with) .none kV4 dc4 pm4 an4 cd4 ct4), f5, (PySem.W.fnOf "check_side" "check_side" (defArgs s_check_side) (defBody s_check_side) (defScope s_check_side) .none kV5 dc5 pm5 an5 cd5 ct5), f6, (PySem.W.fnOf "check_from" "check_from" (defArgs s_check_from) (defBody s_check_from) (defScope s_check_from) .none kV6 dc6 pm6 an6 cd6 ct6), f7, (PySem.W.fnOf "boxes_by" "boxes_by" (defArgs s_boxes_by) (defBody s_boxes_by) (defScope s_boxes_by) .none kV7 dc7 pm7 an7 cd7 ct7), f8, (PySem.W.fnOf "boxes_below" "boxes_below" (defArgs s_boxes_below) (defBody s_boxes_below) (defScope s_boxes_below) .none kV8 dc8 pm8 an8 cd8 ct8), f9, (PySem.W.fnOf "ways_by_boxes" "ways_by_boxes" (defArgs s_ways_by_boxes) (defBody s_ways_by_boxes) (defScope s_ways_by_boxes) .none kV9 dc9 pm9 an9 cd9 ct9), f10, (PySem.W.fnOf "_law_hash" "_law_hash" (defArgs s__law_hash) (defBody s__law_hash) (defScope s__law_hash) .none kV10 dc10 pm10 an10 cd10 ct10), f11, (PySem.W.fnOf "_law_random" "_law_random" (defArgs s__law_random) (defBody s__law_random) (defScope s__law_random) .none kV11 dc11 pm11 an11 cd11 ct11), f12, (PySem.W.fnOf "_law_cell" "_law_cell" (defArgs s__law_cell) (defBody s__law_cell) (defScope s__law_cell) .none kV12 dc12 pm12 an12 cd12 ct12), f13, (PySem.W.fnOf "_law_generator" "_law_generator" (defArgs s__law_generator) (defBody s__law_generator) (defScope s__law_generator) .none kV13 dc13 pm13 an13 cd13 ct13), f14, (PySem.W.fnOf "_law_pick" "_law_pick" (defArgs s__law_pick) (defBody s__law_pick) (defScope s__law_pick) .none kV14 dc14 pm14 an14 cd14 ct14), f15, (PySem.W.fnOf "_law_exact" "_law_exact" (defArgs s__law_exact) (defBody s__law_exact) (defScope s__law_exact) .none kV15 dc15 pm15 an15 cd15 ct15), f16, (PySem.W.fnOf "_law_lists" "_law_lists" (defArgs s__law_lists) (defBody s__law_lists) (defScope s__law_lists) .none kV16 dc16 pm16 an16 cd16 ct16), f17, (PySem.W.fnOf "_law_own" "_law_own" (defArgs s__law_own) (defBody s__law_own) (defScope s__law_own) .none kV17 dc17 pm17 an17 cd17 ct17), f18, (PySem.W.fnOf "_law_words" "_law_words" (defArgs s__law_words) (defBody s__law_words) (defScope s__law_words) .none kV18 dc18 pm18 an18 cd18 ct18), f19, (PySem.W.fnOf "_law_chosen" "_law_chosen" (defArgs s__law_chosen) (defBody s__law_chosen) (defScope s__law_chosen) .none kV19 dc19 pm19 an19 cd19 ct19), f20, (PySem.W.fnOf "_law_bad_way" "_law_bad_way" (defArgs s__law_bad_way) (defBody s__law_bad_way) (defScope s__law_bad_way) .none kV20 dc20 pm20 an20 cd20 ct20), f21, (PySem.W.fnOf "_law_caught" "_law_caught" (defArgs s__law_caught) (defBody s__law_caught) (defScope s__law_caught) .none kV21 dc21 pm21 an21 cd21 ct21), f22, (PySem.W.fnOf "_law_below" "_law_below" (defArgs s__law_below) (defBody s__law_below) (defScope s__law_below) .none kV22 dc22 pm22 an22 cd22 ct22), f23, (PySem.W.fnOf "_law_times" "_law_times" (defArgs s__law_times) (defBody s__law_times) (defScope s__law_times) .none kV23 dc23 pm23 an23 cd23 ct23), fa, (PySem.W.fnOf "law" "law" (defArgs s_law) (defBody s_law) (defScope s_law) .none kV24 dc24 pm24 an24 cd24 ct24), bD, bI, o_InvalidNumber, o_InvalidWay⟩ := {
    g_is_whole := PySem.W.mg_of X G a0
    F_is_whole := fun_mk (st := s_is_whole) l0 c0 k0
    g_is_place := PySem.W.mg_of X G a1
    F_is_place := fun_mk (st := s_is_place) l1 c1 k1
    g_end_of := PySem.W.mg_of X G a2
    F_end_of := fun_mk (st := s_end_of) l2 c2 k2
    g_is_way_by := PySem.W.mg_of X G a3
    F_is_way_by := fun_mk (st := s_is_way_by) l3 c3 k3
    g_words_with := PySem.W.mg_of X G a4
    F_words_with := fun_mk (st := s_words_with) l4 c4 k4
    g_check_side := PySem.W.mg_of X G a5
    F_check_side := fun_mk (st := s_check_side) l5 c5 k5
    g_check_from := PySem.W.mg_of X G a6
    F_check_from := fun_mk (st := s_check_from) l6 c6 k6
    g_boxes_by := PySem.W.mg_of X G a7
    F_boxes_by := fun_mk (st := s_boxes_by) l7 c7 k7
    g_boxes_below := PySem.W.mg_of X G a8
    F_boxes_below := fun_mk (st := s_boxes_below) l8 c8 k8
    g_ways_by_boxes := PySem.W.mg_of X G a9
    F_ways_by_boxes := fun_mk (st := s_ways_by_boxes) l9 c9 k9
    g__law_hash := PySem.W.mg_of X G a10
    F__law_hash := fun_mk (st := s__law_hash) l10 c10 k10
    g__law_random := PySem.W.mg_of X G a11
    F__law_random := fun_mk (st := s__law_random) l11 c11 k11
    g__law_cell := PySem.W.mg_of X G a12
    F__law_cell := fun_mk (st := s__law_cell) l12 c12 k12
    g__law_generator := PySem.W.mg_of X G a13
    F__law_generator := fun_mk (st := s__law_generator) l13 c13 k13
    g__law_pick := PySem.W.mg_of X G a14
    F__law_pick := fun_mk (st := s__law_pick) l14 c14 k14
    g__law_exact := PySem.W.mg_of X G a15
    F__law_exact := fun_mk (st := s__law_exact) l15 c15 k15
    g__law_lists := PySem.W.mg_of X G a16
    F__law_lists := fun_mk (st := s__law_lists) l16 c16 k16
    g__law_own := PySem.W.mg_of X G a17
    F__law_own := fun_mk (st := s__law_own) l17 c17 k17
    g__law_words := PySem.W.mg_of X G a18
    F__law_words := fun_mk (st := s__law_words) l18 c18 k18
    g__law_chosen := PySem.W.mg_of X G a19
    F__law_chosen := fun_mk (st := s__law_chosen) l19 c19 k19
    g__law_bad_way := PySem.W.mg_of X G a20
    F__law_bad_way := fun_mk (st := s__law_bad_way) l20 c20 k20
    g__law_caught := PySem.W.mg_of X G a21
    F__law_caught := fun_mk (st := s__law_caught) l21 c21 k21
    g__law_below := PySem.W.mg_of X G a22
    F__law_below := fun_mk (st := s__law_below) l22 c22 k22
    g__law_times := PySem.W.mg_of X G a23
    F__law_times := fun_mk (st := s__law_times) l23 c23 k23
    g_law := PySem.W.mg_of X G a24
    F_law := fun_mk (st := s_law) l24 c24 k24
    b_all := PySem.W.mg_none_of X G z_all
    b_bool := PySem.W.mg_none_of X G z_bool
    b_enumerate := PySem.W.mg_none_of X G z_enumerate
    b_int := PySem.W.mg_none_of X G z_int
    b_isinstance := PySem.W.mg_none_of X G z_isinstance
    b_len := PySem.W.mg_none_of X G z_len
    b_list := PySem.W.mg_none_of X G z_list
    b_max := PySem.W.mg_none_of X G z_max
    b_min := PySem.W.mg_none_of X G z_min
    b_range := PySem.W.mg_none_of X G z_range
    b_repr := PySem.W.mg_none_of X G z_repr
    b_str := PySem.W.mg_none_of X G z_str
    b_sum := PySem.W.mg_none_of X G z_sum
    b_tuple := PySem.W.mg_none_of X G z_tuple
    c_MOST_PLACE := ⟨_, PySem.W.mg_of X G m_MOST_PLACE, _, rfl⟩
    c_MOST_SIDE := ⟨_, PySem.W.mg_of X G m_MOST_SIDE, _, rfl⟩
    c_MOST_STEPS := ⟨_, PySem.W.mg_of X G m_MOST_STEPS, _, rfl⟩
    box := ⟨⟨xoc, xod, xT, xoT, xnT, xkV, xdoc, xpm, xan, xcda, xct, xosl, xcc, _, _, _, xccl, xcdd, xvs, xccs, xfile, xtf, xcl, xcld, xcsl, x1, x2, x3, x4, x5, x6, x7, x8⟩, Option.isSome_iff_exists.mp x9, x10, x11, x12, x13⟩
    k_BoxError := PySem.W.mg_of X G hD
    k_InvalidNumber := PySem.W.mg_of X G g_InvalidNumber
    kt_InvalidNumber := ⟨⟨⟨_, _, _, _, _, _, _, _, _, _, _, _, _, _, _, g1_InvalidNumber, g2_InvalidNumber⟩, g30_InvalidNumber, g4_InvalidNumber, g5_InvalidNumber, g6_InvalidNumber⟩, g31_InvalidNumber, g32_InvalidNumber, g33_InvalidNumber, g34_InvalidNumber, g7_InvalidNumber, g8_InvalidNumber, g9_InvalidNumber, ga_InvalidNumber, gb_InvalidNumber, PySem.W.exm_ref x14 x15 x16 gc_InvalidNumber⟩
    nk_InvalidNumber := gd_InvalidNumber
    ec_InvalidNumber := ⟨g31_InvalidNumber, g32_InvalidNumber, g4_InvalidNumber, ga_InvalidNumber, g35_InvalidNumber, x17, x18, ge_InvalidNumber⟩
    k_InvalidWay := PySem.W.mg_of X G g_InvalidWay
    kt_InvalidWay := ⟨⟨⟨_, _, _, _, _, _, _, _, _, _, _, _, _, _, _, g1_InvalidWay, g2_InvalidWay⟩, g30_InvalidWay, g4_InvalidWay, g5_InvalidWay, g6_InvalidWay⟩, g31_InvalidWay, g32_InvalidWay, g33_InvalidWay, g34_InvalidWay, g7_InvalidWay, g8_InvalidWay, g9_InvalidWay, ga_InvalidWay, gb_InvalidWay, PySem.W.exm_ref x14 x15 x16 gc_InvalidWay⟩
    nk_InvalidWay := gd_InvalidWay
    ec_InvalidWay := ⟨g31_InvalidWay, g32_InvalidWay, g4_InvalidWay, ga_InvalidWay, g35_InvalidWay, x17, x18, ge_InvalidWay⟩
    q_InvalidNumber_InvalidNumber := q_InvalidNumber_InvalidNumber
    q_InvalidNumber_InvalidWay := q_InvalidNumber_InvalidWay
    q_InvalidWay_InvalidNumber := q_InvalidWay_InvalidNumber
    q_InvalidWay_InvalidWay := q_InvalidWay_InvalidWay }
  exact ⟨_, GG K _ (fun _ _ _ => False), rfl, fun s v => .of_eq rfl, fun base _ _ => ok_law T⟩
end
end Im
/-! The mirror's words applied, for simp. -/
namespace Im
open PySem PySem.Spec PyProof.Rows L2
@[simp] theorem x_mSeq (m1 m2 : SM) (en : En) : mSeq m1 m2 en = (match m1 en with
  | .nx en' => m2 en'
  | r => r) := rfl
@[simp] theorem x_mIfS (mc : EM) (ma mb : SM) (en : En) : mIfS mc ma mb en = (match mc en with
  | .ok (.bl true) en1 => ma en1
  | .ok (.bl false) en1 => mb en1
  | .ok _ _ => .bad
  | .exc c x => .exc c x
  | .bad => .bad) := rfl
@[simp] theorem x_mOr (ma mb : EM) (en : En) : mOr ma mb en = (match ma en with
  | .ok (.bl true) en1 => .ok (.bl true) en1
  | .ok (.bl false) en1 => mb en1
  | .ok _ _ => .bad
  | .exc c x => .exc c x
  | .bad => .bad) := rfl
@[simp] theorem x_mAnd (ma mb : EM) (en : En) : mAnd ma mb en = (match ma en with
  | .ok (.bl true) en1 => mb en1
  | .ok (.bl false) en1 => .ok (.bl false) en1
  | .ok _ _ => .bad
  | .exc c x => .exc c x
  | .bad => .bad) := rfl
@[simp] theorem x_mNot (m : EM) (en : En) : mNot m en = (match m en with
  | .ok (.bl c) en' => .ok (.bl !c) en'
  | .ok _ _ => .bad
  | .exc c x => .exc c x
  | .bad => .bad) := rfl
@[simp] theorem x_mCall (F : List D → FRes) (p : List Nat) (ms : AM) (en : En) : mCall F p ms en = (match ms en with
  | .ok ds en' => match F (permL p ds) with
    | .ok d _ => .ok d en'
    | .exc c x => .exc c x
    | .bad => .bad
  | .exc c x => .exc c x
  | .bad => .bad) := rfl
@[simp] theorem x_mCallR (F : List D → FRes) (p : List Nat) (i j : Nat) (ms : AM) (en : En) : mCallR F p i j ms en = (match ms en with
  | .ok ds en' => match F (permL p ds) with
    | .ok d ios => match ios[j]? with
      | some (some d') => .ok d (en'.set i (some d'))
      | _ => .bad
    | .exc c x => .exc c x
    | .bad => .bad
  | .exc c x => .exc c x
  | .bad => .bad) := rfl
@[simp] theorem x_mCallV (xs : List Str) (F : Str → List D → FRes) (p : List Nat) (mf : EM) (ms : AM) (en : En) : mCallV xs F p mf ms en = (match mf en with
  | .ok (.fn x) en1 => if x ∈ xs then mCall (F x) p ms en1 else .bad
  | .ok _ _ => .bad
  | .exc c x => .exc c x
  | .bad => .bad) := rfl
@[simp] theorem x_mCons (m : EM) (ms : AM) (en : En) : mCons m ms en = (match m en with
  | .ok d en1 => match ms en1 with
    | .ok ds en2 => .ok (d :: ds) en2
    | .exc c x => .exc c x
    | .bad => .bad
  | .exc c x => .exc c x
  | .bad => .bad) := rfl
@[simp] theorem x_mNil  (en : En) : mNil  en = (.ok [] en) := rfl
@[simp] theorem x_mVar (i : Nat) (en : En) : mVar i en = (match en[i]? with
  | some (some d) => .ok d en
  | _ => .bad) := rfl
@[simp] theorem x_mVarS (i : Nat) (en : En) : mVarS i en = (match en[i]? with
  | some (some d) => if scD d then .ok d en else .bad
  | _ => .bad) := rfl
@[simp] theorem x_mMove (i : Nat) (en : En) : mMove i en = (match en[i]? with
  | some (some d) => .ok d (en.set i none)
  | _ => .bad) := rfl
@[simp] theorem x_mSee (i : Nat) (en : En) : mSee i en = (match en[i]? with
  | some (some (.lst ds)) => .ok (.lst ds) en
  | _ => .bad) := rfl
@[simp] theorem x_mChain (f f' : D → D → Option D) (ma mb mc : EM) (en : En) : mChain f f' ma mb mc en = (match mm2 ma mb en with
  | .ok d1 d2 en2 => if scD d2 then match f d1 d2 with
    | some (.bl true) => match mc en2 with
      | .ok d3 en3 => match f' d2 d3 with
        | some d => .ok d en3
        | none => .bad
      | .exc c x => .exc c x
      | .bad => .bad
    | some (.bl false) => .ok (.bl false) en2
    | _ => .bad
    else .bad
  | .exc c x => .exc c x
  | .bad => .bad) := rfl
@[simp] theorem x_mm2 (ma mb : EM) (en : En) : mm2 ma mb en = (match ma en with
  | .ok d1 en1 => match mb en1 with
    | .ok d2 en2 => .ok d1 d2 en2
    | .exc c x => .exc c x
    | .bad => .bad
  | .exc c x => .exc c x
  | .bad => .bad) := rfl
@[simp] theorem x_mC (d : D) (en : En) : mC d en = (.ok d en) := rfl
@[simp] theorem x_mB (f : D → D → Option D) (ma mb : EM) (en : En) : mB f ma mb en = (match mm2 ma mb en with
  | .ok d1 d2 en2 => match f d1 d2 with
    | some d => .ok d en2
    | none => .bad
  | .exc c x => .exc c x
  | .bad => .bad) := rfl
@[simp] theorem x_m1 (f : D → Option D) (m : EM) (en : En) : m1 f m en = (match m en with
  | .ok d en' => match f d with
    | some d' => .ok d' en'
    | none => .bad
  | .exc c x => .exc c x
  | .bad => .bad) := rfl
@[simp] theorem x_mTup (ms : AM) (en : En) : mTup ms en = (match ms en with
  | .ok ds en' => .ok (.tup ds) en'
  | .exc c x => .exc c x
  | .bad => .bad) := rfl
@[simp] theorem x_mLst (ms : AM) (en : En) : mLst ms en = (match ms en with
  | .ok ds en' => .ok (.lst ds) en'
  | .exc c x => .exc c x
  | .bad => .bad) := rfl
@[simp] theorem x_mSet (i : Nat) (m : EM) (en : En) : mSet i m en = (match m en with
  | .ok d en' => .nx (en'.set i (some d))
  | .exc c x => .exc c x
  | .bad => .bad) := rfl
@[simp] theorem x_mDrop (m : EM) (en : En) : mDrop m en = (match m en with
  | .ok _ en' => .nx en'
  | .exc c x => .exc c x
  | .bad => .bad) := rfl
@[simp] theorem x_mRet (io : List (Option Nat)) (m : EM) (en : En) : mRet io m en = (match m en with
  | .ok d en' => .rt d (maskE io en')
  | .exc c x => .exc c x
  | .bad => .bad) := rfl
@[simp] theorem x_mPass  (en : En) : mPass  en = (.nx en) := rfl
@[simp] theorem x_mRaise (c : Str) (m : EM) (en : En) : mRaise c m en = (match m en with
  | .ok d _ => .exc c d
  | .exc c x => .exc c x
  | .bad => .bad) := rfl
@[simp] theorem x_mIf (mc ma mb : EM) (en : En) : mIf mc ma mb en = (match mc en with
  | .ok (.bl true) en1 => ma en1
  | .ok (.bl false) en1 => mb en1
  | .ok _ _ => .bad
  | .exc c x => .exc c x
  | .bad => .bad) := rfl
@[simp] theorem x_mAsg (m : EM) (g : D → En → Option En) (en : En) : mAsg m g en = (match m en with
  | .ok d en' => match g d en' with
    | some en2 => .nx en2
    | none => .bad
  | .exc c x => .exc c x
  | .bad => .bad) := rfl
@[simp] theorem x_mgTup (n : Nat) (gs : List D → En → Option En) (d : D) (en : En) : mgTup n gs d en = (match d with
  | .tup ds => if ds.length = n then gs ds en else none
  | _ => none) := rfl
@[simp] theorem x_mgUnl (n : Nat) (gs : List D → En → Option En) (d : D) (en : En) : mgUnl n gs d en = (match d with
  | .lst ds => if ds.length = n then gs ds en else none
  | _ => none) := rfl
@[simp] theorem x_gCons (g : D → En → Option En) (gs : List D → En → Option En) (ds : List D) (en : En) : gCons g gs ds en = (match ds with
  | d :: ds => match g d en with
    | some en' => gs ds en'
    | none => none
  | [] => none) := rfl
@[simp] theorem x_gSet (i : Nat) (d : D) (en : En) : gSet i d en = (some (en.set i (some d))) := rfl
@[simp] theorem x_gNil  (ds : List D) (en : En) : gNil  ds en = (match ds with
  | [] => some en
  | _ => none) := rfl
@[simp] theorem x_gStore (i : Nat) (m : EM) (d : D) (en : En) : gStore i m d en = (match atL i en with
  | some _ => match m en with
    | .ok (.int j) en2 => match atL i en2 with
      | some ds => match ixN ds.length j with
        | some n => some (en2.set i (some (.lst (ds.set n d))))
        | none => none
      | none => none
    | _ => none
  | none => none) := rfl
@[simp] theorem x_mFor (mi : AM) (g : D → En → Option En) (mb : SM) (en : En) : mFor mi g mb en = (match mi en with
  | .ok ds en1 => loopM g mb ds en1
  | .exc c x => .exc c x
  | .bad => .bad) := rfl
@[simp] theorem x_mIt (f : D → Option (List D)) (m : EM) (en : En) : mIt f m en = (match m en with
  | .ok d en' => match f d with
    | some ds => .ok ds en'
    | none => .bad
  | .exc c x => .exc c x
  | .bad => .bad) := rfl
@[simp] theorem x_mRng1 (m : EM) (en : En) : mRng1 m en = (match m en with
  | .ok (.int j) en' => if rngOk j then .ok (rngD 0 j.toNat) en' else .bad
  | .ok _ _ => .bad
  | .exc c x => .exc c x
  | .bad => .bad) := rfl
@[simp] theorem x_mRng2 (ma mb : EM) (en : En) : mRng2 ma mb en = (match mm2 ma mb en with
  | .ok (.int i) (.int j) en' => if rngOk i && rngOk j then .ok (rngD i (j - i).toNat) en' else .bad
  | .ok _ _ _ => .bad
  | .exc c x => .exc c x
  | .bad => .bad) := rfl
@[simp] theorem x_mS (m : EM) (en : En) : mS m en = (match m en with
  | .ok (.str z) en' => .ok (.str z) en'
  | .ok _ _ => .bad
  | .exc c x => .exc c x
  | .bad => .bad) := rfl
@[simp] theorem x_mSc (m : EM) (en : En) : mSc m en = (match m en with
  | .ok d en' => if scD d then .ok d en' else .bad
  | r => r) := rfl
@[simp] theorem x_mSl (ma : EM) (ml mh : En → ResP) (en : En) : mSl ma ml mh en = (match ma en with
  | .ok d en1 => match ml en1 with
    | .ok lo en2 => match mh en2 with
      | .ok hi en3 => match dSlice d lo hi with
        | some d' => .ok d' en3
        | none => .bad
      | .exc c x => .exc c x
      | .bad => .bad
    | .exc c x => .exc c x
    | .bad => .bad
  | .exc c x => .exc c x
  | .bad => .bad) := rfl
@[simp] theorem x_mpN  (en : En) : mpN  en = (.ok none en) := rfl
@[simp] theorem x_mpS (m : EM) (en : En) : mpS m en = (match m en with
  | .ok (.int i) en' => .ok (some i) en'
  | .ok _ _ => .bad
  | .exc c x => .exc c x
  | .bad => .bad) := rfl
@[simp] theorem x_mLc (mi : AM) (g : D → En → Option En) (mt me : EM) (vs : List Nat) (en : En) : mLc mi g mt me vs en = (match mi en with
  | .ok ds en1 => compM g mt me vs ds [] (killE vs en1)
  | .exc c x => .exc c x
  | .bad => .bad) := rfl
@[simp] theorem x_mPar (i j : Nat) (ms : AM) (en : En) : mPar i j ms en = (match ms en with
  | .ok [d1, d2] en' => .nx ((en'.set i (some d1)).set j (some d2))
  | .ok _ _ => .bad
  | .exc c x => .exc c x
  | .bad => .bad) := rfl
@[simp] theorem x_mPar3 (i j l : Nat) (ms : AM) (en : En) : mPar3 i j l ms en = (match ms en with
  | .ok [d1, d2, d3] en' => .nx (((en'.set i (some d1)).set j (some d2)).set l (some d3))
  | .ok _ _ => .bad
  | .exc c x => .exc c x
  | .bad => .bad) := rfl
@[simp] theorem x_mAppend (i : Nat) (m : EM) (en : En) : mAppend i m en = (match atL i en with
  | some _ => match m en with
    | .ok d en2 => match atL i en2 with
      | some ds => if ds.length < lim then .ok .non (en2.set i (some (.lst (ds ++ [d])))) else .bad
      | none => .bad
    | .exc c x => .exc c x
    | .bad => .bad
  | none => .bad) := rfl
@[simp] theorem x_mPop (i : Nat) (en : En) : mPop i en = (match atL i en with
  | some ds => match ds[ds.length - 1]? with
    | some d => .ok d (en.set i (some (.lst (ds.eraseIdx (ds.length - 1)))))
    | none => .bad
  | none => .bad) := rfl
@[simp] theorem x_mPopAt (i : Nat) (m : EM) (en : En) : mPopAt i m en = (match atL i en with
  | some _ => match m en with
    | .ok (.int j) en2 => match atL i en2 with
      | some ds => match ixN ds.length j with
        | some n => match ds[n]? with
          | some d => if ds.length ≤ lim then .ok d (en2.set i (some (.lst (ds.eraseIdx n)))) else .bad
          | none => .bad
        | none => .bad
      | none => .bad
    | .ok _ _ => .bad
    | .exc c x => .exc c x
    | .bad => .bad
  | none => .bad) := rfl
@[simp] theorem x_mKill (is : List Nat) (m : SM) (en : En) : mKill is m en = (match m en with
  | .nx en' => .nx (killE is en')
  | r => r) := rfl
@[simp] theorem x_mTry (Γ : List Nat) (i j : Nat) (m : EM) (en : En) : mTry Γ i j m en = (match m (bareE Γ en) with
  | .ok _ _ => .nx en
  | .exc c x => .nx ((en.set i none).set j (some (.exc c x)))
  | .bad => .bad) := rfl
@[simp] theorem x_mApp (ms mk : AM) (en : En) : mApp ms mk en = (match ms en with
  | .ok ds en1 => match mk en1 with
    | .ok es en2 => .ok (ds ++ es) en2
    | .exc c x => .exc c x
    | .bad => .bad
  | .exc c x => .exc c x
  | .bad => .bad) := rfl
@[simp] theorem y_lim : lim = 1000000 := (rfl)
@[simp] theorem x_runF (n : Nat) (io : List (Option Nat)) (m : SM) (ds : List D) : runF n io m ds = (match m (ds.map some ++ List.replicate (n - ds.length) none) with
  | .rt d en' => .ok d (maskE io en')
  | .nx en' => .ok .non (maskE io en')
  | .exc c x => .exc c x
  | .bad => .bad) := rfl
@[simp] theorem y_dAdd (i j : Int) : dAdd (.int i) (.int j) = some (.int (i + j)) := (rfl)
@[simp] theorem y_dSub (i j : Int) : dSub (.int i) (.int j) = some (.int (i - j)) := (rfl)
@[simp] theorem y_dLt (i j : Int) : dLt (.int i) (.int j) = some (.bl (decide (i < j))) := (rfl)
@[simp] theorem y_dLe (i j : Int) : dLe (.int i) (.int j) = some (.bl (decide (i ≤ j))) := (rfl)
@[simp] theorem y_dGt (i j : Int) : dGt (.int i) (.int j) = some (.bl (decide (j < i))) := (rfl)
@[simp] theorem y_dGe (i j : Int) : dGe (.int i) (.int j) = some (.bl (decide (j ≤ i))) := (rfl)
@[simp] theorem y_dMax (i j : Int) : dMax (.int i) (.int j) = some (.int (if j > i then j else i)) := (rfl)
@[simp] theorem y_dMin (i j : Int) : dMin (.int i) (.int j) = some (.int (if j < i then j else i)) := (rfl)
@[simp] theorem y_dAddX (i j : Int) : dAddX (.int i) (.int j) = some (.int (i + j)) := (rfl)
@[simp] theorem y_dAddS (x y : Str) : dAddX (.str x) (.str y) = (if x.length + y.length ≤ lim then some (.str (x ++ y)) else none) := (rfl)
@[simp] theorem y_dMul (i j : Int) : dMul (.int i) (.int j) = (if cMul i j then some (.int (i * j)) else none) := (rfl)
@[simp] theorem y_dMulX (i j : Int) : dMulX (.int i) (.int j) = (if cMul i j then some (.int (i * j)) else none) := by unfold dMulX; rw [y_dMul]; cases cMul i j <;> rfl
@[simp] theorem y_dMulS (x : Str) (n : Int) : dMulX (.str x) (.int n) = (if -1000000 ≤ n ∧ n ≤ 1000000 ∧ x.length ≤ 16 then some (.str (Txt.mul x n)) else none) := (rfl)
@[simp] theorem y_dDiv (i j : Int) : dDiv (.int i) (.int j) = (if cDiv i j then some (.int (i.fdiv j)) else none) := (rfl)
@[simp] theorem y_dMod (i j : Int) : dMod (.int i) (.int j) = (if cMod i j then some (.int (i.fmod j)) else none) := (rfl)
@[simp] theorem y_dPow (i j : Int) : dPow (.int i) (.int j) = (if cPow i j then some (.int (i ^ j.toNat)) else none) := (rfl)
@[simp] theorem y_cMul (i j : Int) : cMul i j = ((decide (-(2 ^ 64) < i) && decide (i < 2 ^ 64)) || (decide (-(2 ^ 64) < j) && decide (j < 2 ^ 64))) := (rfl)
@[simp] theorem y_cDiv (i j : Int) : cDiv i j = (decide (j ≠ 0) && decide (j.natAbs < 1073741824)) := (rfl)
@[simp] theorem y_cMod (i j : Int) : cMod i j = decide (j ≠ 0) := (rfl)
@[simp] theorem y_dCat (xs ys : List D) : dCat (.lst xs) (.lst ys) = (if xs.length + ys.length ≤ lim then some (.lst (xs ++ ys)) else none) := (rfl)
@[simp] theorem y_dRep (xs : List D) (n : Int) : dRep (.lst xs) (.int n) = (if -1000000 ≤ n ∧ n ≤ 1000000 ∧ xs.length * n.toNat ≤ lim then some (.lst (List.replicate n.toNat xs).flatten) else none) := (rfl)
@[simp] theorem y_dIxL (xs : List D) (i : Int) : dIx (.lst xs) (.int i) = atI xs i := (rfl)
@[simp] theorem y_dIxT (xs : List D) (i : Int) : dIx (.tup xs) (.int i) = atI xs i := (rfl)
@[simp] theorem y_dIxS (xs : List Int) (i : Int) : dIx (.scr xs) (.int i) = (atI xs i).map .int := (rfl)
theorem atI_nat {α : Type} (xs : List α) (n : Nat) : atI xs (n : Int) = xs[n]? := by
  unfold atI ixN
  by_cases h : n < xs.length
  · simp [h]
  · simp [h]
@[simp] theorem atI_zero {α : Type} (xs : List α) : atI xs 0 = xs[0]? := atI_nat xs 0
@[simp] theorem atI_one {α : Type} (xs : List α) : atI xs 1 = xs[1]? := atI_nat xs 1
@[simp] theorem atI_lit {α : Type} (xs : List α) (n : Nat) : atI xs (no_index (@OfNat.ofNat Int n instOfNat)) = xs[(@OfNat.ofNat Nat n (instOfNatNat n))]? := atI_nat xs n
@[simp] theorem atI_z {α : Type} (xs : List α) (n : Nat) : atI xs (0 + (n : Int)) = xs[n]? := by rw [Int.zero_add]; exact atI_nat xs n
@[simp] theorem atI_c {α : Type} (xs : List α) (n : Nat) : atI xs (n : Int) = xs[n]? := atI_nat xs n
@[simp] theorem y_scD_non  : scD .non = true := (rfl)
@[simp] theorem y_scD_bl (b : Bool) : scD (.bl b) = true := (rfl)
@[simp] theorem y_scD_int (i : Int) : scD (.int i) = true := (rfl)
@[simp] theorem y_scD_str (x : Str) : scD (.str x) = true := (rfl)
@[simp] theorem y_scD_tup (xs : List D) : scD (.tup xs) = false := (rfl)
@[simp] theorem y_scD_lst (xs : List D) : scD (.lst xs) = false := (rfl)
@[simp] theorem y_dItL (xs : List D) : dItems (.lst xs) = some xs := (rfl)
@[simp] theorem y_dItT (xs : List D) : dItems (.tup xs) = some xs := (rfl)
@[simp] theorem y_dItS (x : Str) : dItems (.str x) = some (chars x) := (rfl)
@[simp] theorem y_dItC (xs : List Int) : dItems (.scr xs) = some (xs.map .int) := (rfl)
@[simp] theorem y_dLst (xs : List D) : dLst (.lst xs) = some (enumD xs) := (rfl)
@[simp] theorem y_dStrE (x : Str) : dStrE (.str x) = some (enumD (chars x)) := (rfl)
@[simp] theorem y_dIntI (i : Int) : dInt (.int i) = some (.int i) := (rfl)
@[simp] theorem y_dIntB (b : Bool) : dInt (.bl b) = some (.int (if b then 1 else 0)) := (rfl)
@[simp] theorem y_dLenL (xs : List D) : dLen (.lst xs) = some (.int xs.length) := (rfl)
@[simp] theorem y_dLenT (xs : List D) : dLen (.tup xs) = some (.int xs.length) := (rfl)
@[simp] theorem y_dLenC (xs : List Int) : dLen (.scr xs) = some (.int xs.length) := (rfl)
@[simp] theorem y_dLenS (x : Str) : dLen (.str x) = (if x.length ≤ lim then some (.int x.length) else none) := (rfl)
@[simp] theorem y_dBits (i : Int) : dBits (.int i) = some (.int (Builtin.Int.intBits i : Nat)) := (rfl)
@[simp] theorem y_permN {α : Type} (xs : List α) : permL [] xs = [] := (rfl)
@[simp] theorem y_permC {α : Type} (i : Nat) (p : List Nat) (xs : List α) : permL (i :: p) xs = (match xs[i]? with | some x => x :: permL p xs | none => permL p xs) := by unfold permL; rw [List.filterMap_cons]; cases xs[i]? <;> rfl
@[simp] theorem y_maskN (io : List (Option Nat)) : maskE io [] = [] := (rfl)
@[simp] theorem y_maskC (io : List (Option Nat)) (d : Option D) (en : En) : maskE io (d :: en) = (if (io.getD 0 none).isSome then d else none) :: maskE io.tail en := by
  unfold maskE
  rw [List.mapIdx_cons]
  cases io with
  | nil => simp
  | cons o io => simp
@[simp] theorem y_bareN (io : List Nat) : bareE io [] = [] := (rfl)
@[simp] theorem y_bareC (io : List Nat) (d : Option D) (en : En) : bareE io (d :: en) = (if io.getD 0 0 = 0 then d else none) :: bareE io.tail en := by
  unfold bareE
  rw [List.mapIdx_cons]
  cases io with
  | nil => simp
  | cons o io => simp
@[simp] theorem y_killN (en : En) : killE [] en = en := (rfl)
@[simp] theorem y_killC (i : Nat) (is : List Nat) (en : En) : killE (i :: is) en = killE is (en.set i none) := (rfl)
@[simp] theorem y_rngOk (i : Int) : rngOk i = decide (-1000000 ≤ i ∧ i ≤ 1000000) := (rfl)
@[simp] theorem y_isI_int_non  : dIsI "int" .non = some (.bl false) := (rfl)
@[simp] theorem y_isI_int_bl (b : Bool) : dIsI "int" (.bl b) = some (.bl true) := (rfl)
@[simp] theorem y_isI_int_int (i : Int) : dIsI "int" (.int i) = some (.bl true) := (rfl)
@[simp] theorem y_isI_int_str (x : Str) : dIsI "int" (.str x) = some (.bl false) := (rfl)
@[simp] theorem y_isI_int_tup (xs : List D) : dIsI "int" (.tup xs) = some (.bl false) := (rfl)
@[simp] theorem y_isI_int_lst (xs : List D) : dIsI "int" (.lst xs) = some (.bl false) := (rfl)
@[simp] theorem y_isI_int_ed  : dIsI "int" .edict = some (.bl false) := (rfl)
@[simp] theorem y_isI_bool_non  : dIsI "bool" .non = some (.bl false) := (rfl)
@[simp] theorem y_isI_bool_bl (b : Bool) : dIsI "bool" (.bl b) = some (.bl true) := (rfl)
@[simp] theorem y_isI_bool_int (i : Int) : dIsI "bool" (.int i) = some (.bl false) := (rfl)
@[simp] theorem y_isI_bool_str (x : Str) : dIsI "bool" (.str x) = some (.bl false) := (rfl)
@[simp] theorem y_isI_bool_tup (xs : List D) : dIsI "bool" (.tup xs) = some (.bl false) := (rfl)
@[simp] theorem y_isI_bool_lst (xs : List D) : dIsI "bool" (.lst xs) = some (.bl false) := (rfl)
@[simp] theorem y_isI_bool_ed  : dIsI "bool" .edict = some (.bl false) := (rfl)
@[simp] theorem y_isI_str_non  : dIsI "str" .non = some (.bl false) := (rfl)
@[simp] theorem y_isI_str_bl (b : Bool) : dIsI "str" (.bl b) = some (.bl false) := (rfl)
@[simp] theorem y_isI_str_int (i : Int) : dIsI "str" (.int i) = some (.bl false) := (rfl)
@[simp] theorem y_isI_str_str (x : Str) : dIsI "str" (.str x) = some (.bl true) := (rfl)
@[simp] theorem y_isI_str_tup (xs : List D) : dIsI "str" (.tup xs) = some (.bl false) := (rfl)
@[simp] theorem y_isI_str_lst (xs : List D) : dIsI "str" (.lst xs) = some (.bl false) := (rfl)
@[simp] theorem y_isI_str_ed  : dIsI "str" .edict = some (.bl false) := (rfl)
@[simp] theorem y_isI_list_non  : dIsI "list" .non = some (.bl false) := (rfl)
@[simp] theorem y_isI_list_bl (b : Bool) : dIsI "list" (.bl b) = some (.bl false) := (rfl)
@[simp] theorem y_isI_list_int (i : Int) : dIsI "list" (.int i) = some (.bl false) := (rfl)
@[simp] theorem y_isI_list_str (x : Str) : dIsI "list" (.str x) = some (.bl false) := (rfl)
@[simp] theorem y_isI_list_tup (xs : List D) : dIsI "list" (.tup xs) = some (.bl false) := (rfl)
@[simp] theorem y_isI_list_lst (xs : List D) : dIsI "list" (.lst xs) = some (.bl true) := (rfl)
@[simp] theorem y_isI_list_ed  : dIsI "list" .edict = some (.bl false) := (rfl)
@[simp] theorem y_isI_tuple_non  : dIsI "tuple" .non = some (.bl false) := (rfl)
@[simp] theorem y_isI_tuple_bl (b : Bool) : dIsI "tuple" (.bl b) = some (.bl false) := (rfl)
@[simp] theorem y_isI_tuple_int (i : Int) : dIsI "tuple" (.int i) = some (.bl false) := (rfl)
@[simp] theorem y_isI_tuple_str (x : Str) : dIsI "tuple" (.str x) = some (.bl false) := (rfl)
@[simp] theorem y_isI_tuple_tup (xs : List D) : dIsI "tuple" (.tup xs) = some (.bl true) := (rfl)
@[simp] theorem y_isI_tuple_lst (xs : List D) : dIsI "tuple" (.lst xs) = some (.bl false) := (rfl)
@[simp] theorem y_isI_tuple_ed  : dIsI "tuple" .edict = some (.bl false) := (rfl)
@[simp] theorem y_isI2_non  : dIsI2 "list" "tuple" .non = some (.bl false) := (rfl)
@[simp] theorem y_isI2_bl (b : Bool) : dIsI2 "list" "tuple" (.bl b) = some (.bl false) := (rfl)
@[simp] theorem y_isI2_int (i : Int) : dIsI2 "list" "tuple" (.int i) = some (.bl false) := (rfl)
@[simp] theorem y_isI2_str (x : Str) : dIsI2 "list" "tuple" (.str x) = some (.bl false) := (rfl)
@[simp] theorem y_isI2_tup (xs : List D) : dIsI2 "list" "tuple" (.tup xs) = some (.bl true) := (rfl)
@[simp] theorem y_isI2_lst (xs : List D) : dIsI2 "list" "tuple" (.lst xs) = some (.bl true) := (rfl)
@[simp] theorem y_isI2_ed  : dIsI2 "list" "tuple" .edict = some (.bl false) := (rfl)
@[simp] theorem y_isN_non  : dIsN .non .non = some (.bl true) := (rfl)
@[simp] theorem y_ntN_non  : dNotN .non .non = some (.bl false) := (rfl)
@[simp] theorem y_isN_bl (b : Bool) : dIsN (.bl b) .non = some (.bl false) := (rfl)
@[simp] theorem y_ntN_bl (b : Bool) : dNotN (.bl b) .non = some (.bl true) := (rfl)
@[simp] theorem y_isN_int (i : Int) : dIsN (.int i) .non = some (.bl false) := (rfl)
@[simp] theorem y_ntN_int (i : Int) : dNotN (.int i) .non = some (.bl true) := (rfl)
@[simp] theorem y_isN_str (x : Str) : dIsN (.str x) .non = some (.bl false) := (rfl)
@[simp] theorem y_ntN_str (x : Str) : dNotN (.str x) .non = some (.bl true) := (rfl)
@[simp] theorem y_isN_tup (xs : List D) : dIsN (.tup xs) .non = some (.bl false) := (rfl)
@[simp] theorem y_ntN_tup (xs : List D) : dNotN (.tup xs) .non = some (.bl true) := (rfl)
@[simp] theorem y_isN_lst (xs : List D) : dIsN (.lst xs) .non = some (.bl false) := (rfl)
@[simp] theorem y_ntN_lst (xs : List D) : dNotN (.lst xs) .non = some (.bl true) := (rfl)
@[simp] theorem y_isN_ed  : dIsN .edict .non = some (.bl false) := (rfl)
@[simp] theorem y_ntN_ed  : dNotN .edict .non = some (.bl true) := (rfl)
@[simp] theorem y_isN_exc (c : Str) (v : D) : dIsN (.exc c v) .non = some (.bl false) := (rfl)
@[simp] theorem y_ntN_exc (c : Str) (v : D) : dNotN (.exc c v) .non = some (.bl true) := (rfl)
@[simp] theorem y_isN_scr (ns : List Int) : dIsN (.scr ns) .non = some (.bl false) := (rfl)
@[simp] theorem y_ntN_scr (ns : List Int) : dNotN (.scr ns) .non = some (.bl true) := (rfl)
@[simp] theorem y_dVal (c : Str) (v : D) : dVal (.exc c v) = some v := (rfl)
@[simp] theorem y_dIsX (n c : Str) (v : D) : dIsX n (.exc c v) = some (.bl (c == n)) := (rfl)
@[simp] theorem y_dIsXn (n : Str) : dIsX n .non = some (.bl false) := (rfl)
@[simp] theorem y_dList (xs : List D) : dList (.lst xs) = some (.lst xs) := (rfl)
@[simp] theorem y_dListT (xs : List D) : dList (.tup xs) = some (.lst xs) := (rfl)
@[simp] theorem y_dListC (x : Str) : dListC (.str x) = (if x.length ≤ lim then some (.lst (chars x)) else none) := (rfl)
@[simp] theorem y_dRev (xs : List D) : dRev (.lst xs) = some (.lst xs.reverse) := (rfl)
@[simp] theorem y_slL (xs : List D) (lo hi : Option Int) : dSlice (.lst xs) lo hi = some (.lst (cutL xs lo hi)) := (rfl)
@[simp] theorem y_slS (x : Str) (lo hi : Option Int) : dSlice (.str x) lo hi = (if x.length ≤ lim then some (.str (cutS x lo hi)) else none) := (rfl)
@[simp] theorem y_slC (xs : List Int) (lo hi : Option Int) : dSlice (.scr xs) lo hi = some (.lst ((cutL xs lo hi).map .int)) := (rfl)
@[simp] theorem y_dCount (x y : Str) : dCount (.str x) (.str y) = some (.int (Txt.count x y)) := (rfl)
@[simp] theorem y_atL (i : Nat) (en : En) : atL i en = (match en[i]? with | some (some (.lst ds)) => some ds | _ => none) := (rfl)
@[simp] theorem y_ixN (n : Nat) (i : Int) : ixN n i = (if 0 ≤ i then (if i < n then some i.toNat else none) else if -(n : Int) ≤ i then some (i + n).toNat else none) := (rfl)
end Im
/-! Words for the plain laws: loops in general; data that can be shown. -/
namespace Im
open PySem PySem.Spec PyProof.Rows L2
/-! ### loops in general -/
@[simp] def lStep (g : D → En → Option En) (mb : SM) (d : D) (en : En) : SRes := match g d en with
  | some en1 => mb en1
  | none => .bad
theorem loop_cons (g : D → En → Option En) (mb : SM) (d : D) (ds : List D) (en : En) : loopM g mb (d :: ds) en = (match lStep g mb d en with
  | .nx en' => loopM g mb ds en'
  | r => r) := by
  unfold lStep
  rw [loopM]
  dsimp only
  cases g d en <;> rfl
@[simp] theorem loop_nil (g : D → En → Option En) (mb : SM) (en : En) : loopM g mb [] en = .nx en := by rw [loopM]
def SNx (P : En → Prop) : SRes → Prop
  | .nx en => P en
  | _ => False
@[simp] theorem snx_nx (P : En → Prop) (en : En) : SNx P (.nx en) = P en := rfl
theorem SNx.of {P : En → Prop} {r : SRes} (h : SNx P r) : ∃ en, r = .nx en ∧ P en := by
  cases r <;> first | exact ⟨_, rfl, h⟩ | exact h.elim
theorem loop_inv {g : D → En → Option En} {mb : SM} (I : Nat → En → Prop) : ∀ (ds : List D) (n : Nat) (en : En), (∀ i d en, ds[i]? = some d → I (n + i) en → SNx (I (n + i + 1)) (lStep g mb d en)) → I n en → ∃ en', loopM g mb ds en = .nx en' ∧ I (n + ds.length) en'
  | [], n, en, h, h0 => ⟨en, loop_nil _ _ _, h0⟩
  | d :: ds, n, en, h, h0 => by
    obtain ⟨e2, q, i2⟩ := (h 0 d en rfl h0).of
    obtain ⟨e3, q3, i3⟩ := loop_inv I ds (n + 1) e2 (fun i d' en' hd hi => by
      have := h (i + 1) d' en' (by simpa using hd) (by rw [show n + (i + 1) = n + 1 + i by omega]; exact hi)
      rw [show n + (i + 1) + 1 = n + 1 + i + 1 by omega] at this
      exact this) i2
    refine ⟨e3, ?_, by rw [List.length_cons, show n + (ds.length + 1) = n + 1 + ds.length by omega]; exact i3⟩
    rw [loop_cons, q]
    exact q3
theorem rng_get {n i : Nat} {d : D} (h : (rngD 0 n)[i]? = some d) : d = .int (i : Nat) ∧ i < n := by
  unfold rngD at h
  rw [List.getElem?_map] at h
  by_cases hi : i < n
  · rw [List.getElem?_range hi] at h
    simp at h
    exact ⟨h.symm, hi⟩
  · rw [List.getElem?_eq_none (by simpa using hi)] at h
    cases h
@[simp] theorem rng_len (n : Nat) : (rngD 0 n).length = n := by simp [rngD]
/-- a walk over range(n) -/
theorem loop_rng {g : D → En → Option En} {mb : SM} (I : Nat → En → Prop) (n : Nat) (en : En) (h : ∀ i en, i < n → I i en → SNx (I (i + 1)) (lStep g mb (.int (i : Nat)) en)) (h0 : I 0 en) : ∃ en', loopM g mb (rngD 0 n) en = .nx en' ∧ I n en' := by
  obtain ⟨en', e, i⟩ := loop_inv (g := g) (mb := mb) I (rngD 0 n) 0 en (fun i d en hd hi => by
    obtain ⟨rfl, hl⟩ := rng_get hd
    rw [Nat.zero_add] at hi ⊢
    exact h i en hl hi) h0
  rw [rng_len, Nat.zero_add] at i
  exact ⟨en', e, i⟩
@[simp] def cStep (g : D → En → Option En) (mt me : EM) (vs : List Nat) (d : D) (en : En) : Option (Option D × En) := match g d en with
  | some en1 => match mt en1 with
    | .ok (.bl true) en2 => match me en2 with
      | .ok y en3 => some (some y, killE vs en3)
      | _ => none
    | .ok (.bl false) en2 => some (none, killE vs en2)
    | _ => none
  | none => none
@[simp] theorem comp_nil (g : D → En → Option En) (mt me : EM) (vs : List Nat) (acc : List D) (en : En) : compM g mt me vs [] acc en = .ok (.lst acc) en := by rw [compM]
theorem comp_cons (g : D → En → Option En) (mt me : EM) (vs : List Nat) (d : D) (ds acc : List D) (en : En) : compM g mt me vs (d :: ds) acc en = (match cStep g mt me vs d en with
  | some (some y, en') => if acc.length < lim then compM g mt me vs ds (acc ++ [y]) en' else .bad
  | some (none, en') => compM g mt me vs ds acc en'
  | none => .bad) := by
  unfold cStep
  rw [compM]
  cases g d en with
  | none => rfl
  | some e1 =>
    dsimp only
    cases mt e1 with
    | bad => rfl
    | exc c x => rfl
    | ok t e2 =>
      cases t with
      | bl b =>
        cases b with
        | false => rfl
        | true =>
          dsimp only
          cases me e2 <;> rfl
      | _ => rfl
theorem comp_fm {α : Type} {g : D → En → Option En} {mt me : EM} {vs : List Nat} {en : En} (enc : α → D) (f : α → Option D) : ∀ (xs : List α) (acc : List D), acc.length + xs.length ≤ lim → (∀ x ∈ xs, cStep g mt me vs (enc x) en = some (f x, en)) → compM g mt me vs (xs.map enc) acc en = .ok (.lst (acc ++ xs.filterMap f)) en
  | [], acc, _, _ => by simp [compM]
  | x :: xs, acc, hl, h => by
    simp only [List.length_cons] at hl
    rw [List.map_cons, comp_cons, h x List.mem_cons_self, List.filterMap_cons]
    cases e : f x with
    | none =>
      dsimp only
      exact comp_fm enc f xs acc (by omega) fun y hy => h y (List.mem_cons_of_mem _ hy)
    | some y =>
      dsimp only
      rw [if_pos (by omega), comp_fm enc f xs (acc ++ [y]) (by simp [-y_lim]; omega) fun y hy => h y (List.mem_cons_of_mem _ hy)]
      simp
theorem comp_map {α : Type} {g : D → En → Option En} {mt me : EM} {vs : List Nat} {en : En} (enc : α → D) (f : α → D) (xs : List α) (hl : xs.length ≤ lim) (h : ∀ x ∈ xs, cStep g mt me vs (enc x) en = some (some (f x), en)) : compM g mt me vs (xs.map enc) [] en = .ok (.lst (xs.map f)) en := by
  rw [comp_fm enc (fun x => some (f x)) xs [] (by simpa using hl) h]
  congr 2
  induction xs with
  | nil => rfl
  | cons x xs ih => simp [List.filterMap_cons]
theorem comp_flt {α : Type} {g : D → En → Option En} {mt me : EM} {vs : List Nat} {en : En} (enc : α → D) (p : α → Bool) (f : α → D) (xs : List α) (hl : xs.length ≤ lim) (h : ∀ x ∈ xs, cStep g mt me vs (enc x) en = some (if p x then some (f x) else none, en)) : compM g mt me vs (xs.map enc) [] en = .ok (.lst ((xs.filter p).map f)) en := by
  rw [comp_fm enc (fun x => if p x then some (f x) else none) xs [] (by simpa using hl) h]
  congr 2
  rw [List.nil_append]
  clear h hl
  induction xs with
  | nil => rfl
  | cons x xs ih =>
    rw [List.filterMap_cons, List.filter_cons]
    cases p x <;> simp [ih]
/-- with a state -/
def CNx (P : D → En → Prop) : Option (Option D × En) → Prop
  | some (some y, en) => P y en
  | _ => False
@[simp] theorem cnx_nx (P : D → En → Prop) (y : D) (en : En) : CNx P (some (some y, en)) = P y en := rfl
theorem CNx.of {P : D → En → Prop} {r : Option (Option D × En)} (h : CNx P r) : ∃ y en, r = some (some y, en) ∧ P y en := by
  match r, h with
  | some (some y, en), h => exact ⟨_, _, rfl, h⟩
theorem comp_inv {g : D → En → Option En} {mt me : EM} {vs : List Nat} (I : List D → En → Prop) : ∀ (ds acc : List D) (en : En), acc.length + ds.length ≤ lim → (∀ i d acc' en, ds[i]? = some d → acc'.length = acc.length + i → I acc' en → CNx (fun y en2 => I (acc' ++ [y]) en2) (cStep g mt me vs d en)) → I acc en → ∃ ys en', compM g mt me vs ds acc en = .ok (.lst (acc ++ ys)) en' ∧ ys.length = ds.length ∧ I (acc ++ ys) en'
  | [], acc, en, _, _, h0 => ⟨[], en, by simp [compM], rfl, by simpa using h0⟩
  | d :: ds, acc, en, hl, h, h0 => by
    simp only [List.length_cons] at hl
    obtain ⟨y, e2, q, i2⟩ := (h 0 d acc en rfl rfl h0).of
    obtain ⟨ys, e3, q3, l3, i3⟩ := comp_inv I ds (acc ++ [y]) e2 (by simp [-y_lim]; omega) (fun i d' acc' en' hd ha => h (i + 1) d' acc' en' (by simpa using hd) (by rw [ha]; simp; omega)) i2
    refine ⟨y :: ys, e3, ?_, by simp [l3], by simpa using i3⟩
    rw [comp_cons, q]
    dsimp only
    rw [if_pos (by omega), q3]
    simp
/-- a list made over range(n), with a state -/
theorem comp_rng {g : D → En → Option En} {mt me : EM} {vs : List Nat} (I : List D → En → Prop) (n : Nat) (en : En) (hn : n ≤ 1000000) (h : ∀ i acc en, i < n → acc.length = i → I acc en → CNx (fun y en2 => I (acc ++ [y]) en2) (cStep g mt me vs (.int (i : Nat)) en)) (h0 : I [] en) : ∃ ys en', compM g mt me vs (rngD 0 n) [] en = .ok (.lst ys) en' ∧ ys.length = n ∧ I ys en' := by
  obtain ⟨ys, en', q, l, i⟩ := comp_inv (g := g) (mt := mt) (me := me) (vs := vs) I (rngD 0 n) [] en (by simpa using hn) (fun i d acc en hd ha hi => by
    obtain ⟨rfl, hl⟩ := rng_get hd
    exact h i acc en hl (by simpa using ha) hi) h0
  exact ⟨ys, en', by simpa using q, by simpa using l, by simpa using i⟩
/-! ### data that can be shown -/
theorem reprChar_lt (q c : Nat) (hc : c < 0x110000) : ∀ e ∈ Builtin.Str.reprChar q c, e < 0x110000 := by
  intro e he
  have hx : ∀ w : Nat, ∀ e ∈ (List.replicate (w - ((Nat.toDigits 16 c).map Char.toNat).length) 48 ++ (Nat.toDigits 16 c).map Char.toNat), e < 0x110000 := by
    intro w e he
    rcases List.mem_append.mp he with he | he
    · have := List.eq_of_mem_replicate he; omega
    · obtain ⟨ch, _, rfl⟩ := List.mem_map.mp he
      have := ch.valid
      have h2 : ch.toNat = ch.val.toNat := rfl
      unfold UInt32.isValidChar Nat.isValidChar at this
      omega
  have two : ∀ (a b : Nat) (l : List Nat), a < 0x110000 → b < 0x110000 → (∀ e ∈ l, e < 0x110000) → ∀ e ∈ [a, b] ++ l, e < 0x110000 := by
    intro a b l ha hb hl e he
    simp only [List.cons_append, List.nil_append, List.mem_cons] at he
    rcases he with rfl | rfl | he
    · exact ha
    · exact hb
    · exact hl e he
  unfold Builtin.Str.reprChar at he
  dsimp only at he
  split at he
  · exact two 92 c [] (by omega) hc (by simp) e (by simpa using he)
  · split at he
    · exact two 92 110 [] (by omega) (by omega) (by simp) e (by simpa using he)
    · split at he
      · exact two 92 114 [] (by omega) (by omega) (by simp) e (by simpa using he)
      · split at he
        · exact two 92 116 [] (by omega) (by omega) (by simp) e (by simpa using he)
        · split at he
          · simp at he; omega
          · split at he
            · exact two 92 120 _ (by omega) (by omega) (hx 2) e he
            · split at he
              · exact two 92 117 _ (by omega) (by omega) (hx 4) e he
              · exact two 92 85 _ (by omega) (by omega) (hx 8) e he
def sOk (x : Str) : Prop := ∀ c ∈ x.cps.toList, c < 0x110000
theorem sOk_iff (x : Str) : PyData.strOk x = true ↔ sOk x := by
  unfold PyData.strOk sOk
  rw [Array.all_eq_true_iff_forall_mem]
  simp
theorem sOk_app {x y : Str} (hx : sOk x) (hy : sOk y) : sOk (x ++ y) := by
  intro c hc
  have e : (x ++ y).cps = x.cps ++ y.cps := rfl
  rw [e] at hc
  simp only [Array.toList_append, List.mem_append] at hc
  exact hc.elim (hx c) (hy c)
theorem sOk_reprText (x : Str) (h : sOk x) : sOk (reprText x) := by
  intro c hc
  unfold reprText at hc
  have hq : reprQuote x < 0x110000 := by
    unfold reprQuote
    split <;> omega
  simp only [Array.toList_push, List.mem_append, List.mem_singleton] at hc
  rcases hc with hc | rfl
  · have key : ∀ (l : List Nat) (acc : Array Nat), (∀ c ∈ l, c < 0x110000) → (∀ c ∈ acc.toList, c < 0x110000) → ∀ c ∈ (l.foldl (fun out c => out ++ (Builtin.Str.reprChar (reprQuote x) c).toArray) acc).toList, c < 0x110000 := by
      intro l
      induction l with
      | nil => intro acc _ ha; exact ha
      | cons d l ih =>
        intro acc hl ha
        refine ih _ (fun c hc => hl c (List.mem_cons_of_mem _ hc)) fun c hc => ?_
        simp only [Array.toList_append, List.mem_append] at hc
        rcases hc with hc | hc
        · exact ha c hc
        · exact reprChar_lt _ _ (hl d List.mem_cons_self) c hc
    rw [← Array.foldl_toList] at hc
    exact key x.cps.toList _ h (by simpa using hq) c hc
  · exact hq
theorem sOk_ofString (s : String) : sOk (Str.ofString s) := by
  intro c hc
  rw [Str.ofString_eq_toList] at hc
  simp at hc
  obtain ⟨ch, _, rfl⟩ := hc
  have := ch.valid
  have h2 : ch.toNat = ch.val.toNat := rfl
  unfold UInt32.isValidChar Nat.isValidChar at this
  omega
theorem sOk_textFrom : ∀ (ts : List Str) (k : Nat) (acc : Str), sOk acc → (∀ t ∈ ts, sOk t) → sOk (textFrom k acc ts)
  | [], k, acc, ha, _ => ha
  | t :: ts, k, acc, ha, h => by
    refine sOk_textFrom ts (k + 1) _ (sOk_app (sOk_app ha ?_) (h t List.mem_cons_self)) fun t ht => h t (List.mem_cons_of_mem _ ht)
    split <;> exact sOk_ofString _
theorem sOk_join : ∀ (ts : List Str), (∀ t ∈ ts, sOk t) → sOk (Str.join ", " ts)
  | [], _ => by intro c hc; exact absurd hc (by rw [show Str.join ", " [] = ⟨#[]⟩ from rfl]; simp)
  | [x], h => h x List.mem_cons_self
  | x :: y :: r, h => sOk_app (sOk_app (h x List.mem_cons_self) (sOk_ofString _)) (sOk_join (y :: r) fun t ht => h t (List.mem_cons_of_mem _ ht))
mutual
theorem sOk_shown : ∀ p : PyData, p.canLay0 = true → sOk p.shown
  | .none, _ => sOk_ofString _
  | .bool b, _ => by cases b <;> exact sOk_ofString _
  | .int i, _ => sOk_ofString _
  | .str x, h => sOk_reprText x ((sOk_iff x).mp (by simpa [PyData.canLay0] using h))
  | .list xs, h => by
    simp only [PyData.shown, listText]
    exact sOk_app (sOk_textFrom _ _ _ (sOk_ofString _) (sOk_shownAll xs (by simpa [PyData.canLay0] using h))) (sOk_ofString _)
  | .tuple xs, h => by
    simp only [PyData.shown, tupleText]
    refine sOk_app (sOk_app (sOk_ofString _) (sOk_join _ (sOk_shownAll xs (by simpa [PyData.canLay0] using h)))) ?_
    split <;> exact sOk_ofString _
  | .dict kvs, h => by simp [PyData.canLay0] at h
theorem sOk_shownAll : ∀ xs : List PyData, PyData.canLayAll0 xs = true → ∀ t ∈ PyData.shownAll xs, sOk t
  | [], _, t, ht => by simp [PyData.shownAll] at ht
  | x :: xs, h, t, ht => by
    have h' : x.canLay0 = true ∧ PyData.canLayAll0 xs = true := by simpa [PyData.canLayAll0] using h
    simp only [PyData.shownAll, List.mem_cons] at ht
    rcases ht with rfl | ht
    · exact sOk_shown x h'.1
    · exact sOk_shownAll xs h'.2 t ht
end
mutual
theorem eqv_self : ∀ p : PyData, p.canLay0 = true → PyData.eqv p p = true
  | .none, _ => rfl
  | .bool b, _ => by cases b <;> rfl
  | .int i, _ => by simp [PyData.eqv]
  | .str x, _ => by simp [PyData.eqv]
  | .list xs, h => by
    rw [PyData.eqv]; exact eqvAll_self xs (by simpa [PyData.canLay0] using h)
  | .tuple xs, h => by
    rw [PyData.eqv]; exact eqvAll_self xs (by simpa [PyData.canLay0] using h)
  | .dict kvs, h => by simp [PyData.canLay0] at h
theorem eqvAll_self : ∀ xs : List PyData, PyData.canLayAll0 xs = true → PyData.eqvAll xs xs = true
  | [], _ => rfl
  | x :: xs, h => by
    have h' : x.canLay0 = true ∧ PyData.canLayAll0 xs = true := by simpa [PyData.canLayAll0] using h
    rw [PyData.eqvAll, eqv_self x h'.1, eqvAll_self xs h'.2]; rfl
end
/-- data of depth at most n, weight at most w, numbers of few figures -/
structure NzP (n w : Nat) (p : PyData) : Prop where
  lay : p.canLay0 = true
  shw : p.showable = true
  lea : p.leavesShort 13 = true
  dep : p.depth ≤ n
  wei : p.weight ≤ w
def Nz (n w : Nat) (d : D) : Prop := ∃ p, toP d = some p ∧ NzP n w p
structure NzPL (n w : Nat) (ps : List PyData) : Prop where
  lay : PyData.canLayAll0 ps = true
  shw : PyData.showableAll ps = true
  lea : PyData.leavesShortAll 13 ps = true
  dep : PyData.depthAll ps ≤ n
  wei : PyData.weightAll ps ≤ w
def NzL (n w : Nat) (ds : List D) : Prop := ∃ ps, toPL ds = some ps ∧ NzPL n w ps
theorem Nz.mono {n w n' w' : Nat} {d : D} (h : Nz n w d) (hn : n ≤ n') (hw : w ≤ w') : Nz n' w' d := by
  obtain ⟨p, e, a, b, c, u, v⟩ := h
  exact ⟨p, e, a, b, c, by omega, by omega⟩
theorem NzL.mono {n w n' w' : Nat} {d : List D} (h : NzL n w d) (hn : n ≤ n') (hw : w ≤ w') : NzL n' w' d := by
  obtain ⟨p, e, a, b, c, u, v⟩ := h
  exact ⟨p, e, a, b, c, by omega, by omega⟩
theorem nz_non : Nz 0 0 .non := ⟨_, rfl, rfl, rfl, rfl, by decide, by decide⟩
theorem nz_bl (b : Bool) : Nz 0 0 (.bl b) := ⟨_, rfl, rfl, rfl, rfl, by simp [PyData.depth], by simp [PyData.weight]⟩
theorem nz_int (i : Int) (h : i.natAbs < 10 ^ 12 := by omega) : Nz 0 40 (.int i) := by
  have l : i.natAbs.log2 < 40 := by
    by_cases hz : i.natAbs = 0
    · rw [hz]; decide
    · exact (Nat.log2_lt hz).mpr (by omega)
  refine ⟨_, rfl, rfl, ?_, ?_, by simp [PyData.depth], ?_⟩
  · simp only [PyData.showable, decide_eq_true_eq]; omega
  · have := PyData.shown_int_le h
    simp only [PyData.leavesShort, decide_eq_true_eq]
    exact this
  · simp only [PyData.weight]
    split <;> omega
theorem nz_str (x : Str) (h : PyData.strOk x = true) : Nz 0 x.length (.str x) := by
  refine ⟨_, rfl, by simpa [PyData.canLay0] using h, rfl, ?_, by simp [PyData.depth], by simp [PyData.weight, Str.length]⟩
  have h := (sOk_iff x).mp h
  simp only [PyData.leavesShort, List.all_eq_true, decide_eq_true_eq]
  intro c hc
  have := h c hc
  have e : (16 : Nat) ^ 8 = 4294967296 := by decide
  omega
theorem nzl_nil : NzL 0 0 [] := ⟨_, rfl, rfl, rfl, rfl, by decide, by decide⟩
theorem nzl_cons {n w n' w' : Nat} {d : D} {ds : List D} (h : Nz n w d) (h' : NzL n' w' ds) : NzL (max n n') (w + 1 + w') (d :: ds) := by
  obtain ⟨p, e, a, b, c, u, v⟩ := h
  obtain ⟨ps, es, a', b', c', u', v'⟩ := h'
  refine ⟨p :: ps, by simp [toPL, e, es], ?_, ?_, ?_, ?_, ?_⟩
  · simp [PyData.canLayAll0, a, a']
  · simp [PyData.showableAll, b, b']
  · simp [PyData.leavesShortAll, c, c']
  · simp only [PyData.depthAll]; omega
  · simp only [PyData.weightAll]; omega
theorem nz_lst {n w : Nat} {ds : List D} (h : NzL n w ds) : Nz (n + 1) w (.lst ds) := by
  obtain ⟨ps, es, a', b', c', u', v'⟩ := h
  exact ⟨_, by rw [toP, es]; rfl, by simpa [PyData.canLay0] using a', by simpa [PyData.showable] using b', by simpa [PyData.leavesShort] using c', by simp only [PyData.depth]; omega, by simpa only [PyData.weight] using v'⟩
theorem nz_tup {n w : Nat} {ds : List D} (h : NzL n w ds) : Nz (n + 1) w (.tup ds) := by
  obtain ⟨ps, es, a', b', c', u', v'⟩ := h
  exact ⟨_, by rw [toP, es]; rfl, by simpa [PyData.canLay0] using a', by simpa [PyData.showable] using b', by simpa [PyData.leavesShort] using c', by simp only [PyData.depth]; omega, by simpa only [PyData.weight] using v'⟩
theorem nzl_all {n w : Nat} : ∀ {ds : List D}, (∀ d ∈ ds, Nz n w d) → NzL n (ds.length * (w + 1)) ds
  | [], _ => nzl_nil.mono (by omega) (by omega)
  | d :: ds, h => (nzl_cons (h d List.mem_cons_self) (nzl_all fun d hd => h d (List.mem_cons_of_mem _ hd))).mono (by omega) (by rw [List.length_cons, Nat.add_mul]; omega)
theorem shaped_of {n w : Nat} {p : PyData} (h : NzP n w p) (hn : n ≤ 60) : SeqAt.shaped p = true := by
  unfold SeqAt.shaped
  rw [h.lay, Bool.true_and, decide_eq_true_eq]
  have := h.dep
  omega
/-- shown, its text in order -/
theorem repr_nz {n w : Nat} {d : D} (h : Nz n w d) (hn : n ≤ 60 := by decide) (hw : w ≤ 60000 := by decide) : ∃ s, dRepr d = some (.str s) ∧ PyData.strOk s = true ∧ s.length ≤ 15 * w + 13 := by
  obtain ⟨p, e, hp⟩ := h
  have l := PyData.shown_le 13 (by decide) p hp.lea
  have := hp.wei
  have hd := hp.dep
  have l2 : (13 + 2) * p.weight ≤ 15 * w := Nat.mul_le_mul (by omega) (by omega)
  refine ⟨p.shown, ?_, (sOk_iff _).mpr (sOk_shown p hp.lay), by omega⟩
  unfold dRepr
  rw [e]
  dsimp only
  rw [hp.shw, decide_eq_true (show p.depth ≤ 60 by omega), decide_eq_true (show p.shown.length ≤ lim by simp only [lim]; omega)]
  rfl
theorem eqD_self {n w : Nat} {d : D} (b : Bool) (h : Nz n w d) (hn : n ≤ 60 := by decide) : eqD b d d = some (.bl (!b)) := by
  obtain ⟨p, e, hp⟩ := h
  unfold eqD
  rw [e]
  dsimp only
  rw [shaped_of hp hn, eqv_self p hp.lay]
  cases b <;> rfl
theorem eqD_strs (x y : Str) (b : Bool) (hx : PyData.strOk x = true) (hy : PyData.strOk y = true) : eqD b (.str x) (.str y) = some (.bl (if b then !decide (x = y) else decide (x = y))) := by
  simp [eqD, toP, SeqAt.shaped, PyData.eqv, PyData.canLay0, PyData.depth, hx, hy]
  cases b <;> by_cases h : x = y <;> simp [h]
@[simp] theorem eqD_ints (i j : Int) (b : Bool) : eqD b (.int i) (.int j) = some (.bl (if b then !decide (i = j) else decide (i = j))) := by
  simp [eqD, toP, SeqAt.shaped, PyData.eqv, PyData.canLay0, PyData.depth]
  cases b <;> by_cases h : i = j <;> simp [h]
end Im
/-! A mark found once in a shown text. -/
namespace Im
open PySem PySem.Spec PyProof.Rows L2
theorem eqS (s : Str) (h : PyData.strOk s = true) : eqD true (.str s) (.str s) = some (.bl false) := by rw [eqD_strs _ _ _ h h]; simp
def mk6 : List Nat := [39, 109, 97, 114, 107, 39]
def Fr (l : List Nat) : Prop := 39 ∉ l
def On (l : List Nat) : Prop := ∃ a b, l = a ++ mk6 ++ b ∧ 39 ∉ a ∧ 39 ∉ b
theorem Fr.app {l m : List Nat} (h : Fr l) (h' : Fr m) : Fr (l ++ m) := fun q => (List.mem_append.mp q).elim h h'
theorem On.app {l m : List Nat} (h : On l) (h' : Fr m) : On (l ++ m) := by
  obtain ⟨a, b, rfl, ha, hb⟩ := h
  exact ⟨a, b ++ m, by simp, ha, Fr.app hb h'⟩
theorem On.pre {l m : List Nat} (h : Fr l) (h' : On m) : On (l ++ m) := by
  obtain ⟨a, b, rfl, ha, hb⟩ := h'
  exact ⟨l ++ a, b, by simp, Fr.app h ha, hb⟩
theorem mk_at {a b : List Nat} (ha : 39 ∉ a) (hb : 39 ∉ b) {k : Nat} (h : (a ++ mk6 ++ b)[k]? = some 39) : k = a.length ∨ k = a.length + 5 := by
  by_cases h1 : k < a.length
  · rw [List.append_assoc, List.getElem?_append_left h1] at h
    exact absurd (List.mem_of_getElem? h) ha
  · by_cases h2 : k < a.length + 6
    · rw [List.append_assoc, List.getElem?_append_right (by omega), List.getElem?_append_left (by simp [mk6]; omega)] at h
      have e : k - a.length = 0 ∨ k - a.length = 1 ∨ k - a.length = 2 ∨ k - a.length = 3 ∨ k - a.length = 4 ∨ k - a.length = 5 := by omega
      rcases e with e | e | e | e | e | e <;> rw [e] at h <;> simp [mk6] at h <;> omega
    · rw [List.getElem?_append_right (by simp [mk6]; omega)] at h
      exact absurd (List.mem_of_getElem? h) hb
theorem count_one (x y : Str) (hy : y.cps.toList = mk6) (h : On x.cps.toList) : Txt.count x y = 1 := by
  obtain ⟨a, b, e, ha, hb⟩ := h
  have yl : y.length = 6 := by
    have : y.cps.toList.length = 6 := by rw [hy]; rfl
    simpa [Str.length] using this
  have at_ : ∀ k, StrLaws.At x y x.length k → k = a.length := by
    intro k hk
    obtain ⟨h1, h2⟩ := hk
    unfold Builtin.Str.subAt at h2
    rw [beq_iff_eq, yl] at h2
    have h3 := congrArg Array.toList h2
    rw [hy, Array.toList_extract] at h3
    simp only [List.extract] at h3
    have g : ∀ j, j < 6 → x.cps.toList[k + j]? = mk6[j]? := fun j hj => by
      rw [← h3, List.getElem?_take_of_lt (by omega), List.getElem?_drop]
    have g0 := g 0 (by decide)
    have g5 := g 5 (by decide)
    rw [e] at g0 g5
    have q0 := mk_at ha hb (k := k + 0) g0
    have q5 := mk_at ha hb (k := k + 5) g5
    omega
  have here : StrLaws.At x y x.length a.length := by
    have xl : x.length = a.length + 6 + b.length := by
      have : x.cps.toList.length = a.length + 6 + b.length := by rw [e]; simp [mk6]; omega
      simpa [Str.length] using this
    refine ⟨by omega, ?_⟩
    unfold Builtin.Str.subAt
    rw [beq_iff_eq, yl]
    apply Array.ext'
    rw [hy, Array.toList_extract]
    simp only [List.extract]
    rw [e, List.append_assoc, List.drop_left, show a.length + 6 - a.length = 6 by omega]
    rfl
  obtain ⟨f, hc, hf⟩ := StrLaws.occ_tight x y (by omega)
  have : (Builtin.Str.occurrences x y 0 x.length (x.length + 1)).length = 1 := by
    match q : Builtin.Str.occurrences x y 0 x.length (x.length + 1), hc with
    | [], hc =>
      have hc : f = 0 := hc
      exact absurd here (hf _ (by omega))
    | [c], hc => rfl
    | c :: d :: r, hc =>
      obtain ⟨_, h1, _, h2⟩ := hc
      obtain ⟨h3, h4, _, _⟩ := h2
      have := at_ c h1
      have := at_ d h4
      omega
  show (((Builtin.Str.occurrences x y 0 x.length (x.length + 1)).length : Nat) : Int) = 1
  rw [this]; rfl
theorem fr_str (x : Str) (h : x.cps.toList.all (· != 39) = true) : Fr x.cps.toList := fun q => by
  rw [List.all_eq_true] at h
  have := h _ q
  simp at this
theorem cps_app (x y : Str) : (x ++ y).cps.toList = x.cps.toList ++ y.cps.toList := by
  show (x.cps ++ y.cps).toList = _
  simp
theorem fr_sep (k : Nat) : Fr (Str.ofString (if k > 0 then ", " else "")).cps.toList := by
  split <;> exact fr_str _ (by decide +kernel)
theorem tf_free : ∀ (ts : List Str) (k : Nat) (acc : Str), Fr acc.cps.toList → (∀ t ∈ ts, Fr t.cps.toList) → Fr (textFrom k acc ts).cps.toList
  | [], k, acc, ha, _ => ha
  | t :: ts, k, acc, ha, h => tf_free ts (k + 1) _ (by rw [cps_app, cps_app]; exact (ha.app (fr_sep k)).app (h t List.mem_cons_self)) fun t ht => h t (List.mem_cons_of_mem _ ht)
theorem tf_on : ∀ (ts : List Str) (k : Nat) (acc : Str), On acc.cps.toList → (∀ t ∈ ts, Fr t.cps.toList) → On (textFrom k acc ts).cps.toList
  | [], k, acc, ha, _ => ha
  | t :: ts, k, acc, ha, h => tf_on ts (k + 1) _ (by rw [cps_app, cps_app]; exact (ha.app (fr_sep k)).app (h t List.mem_cons_self)) fun t ht => h t (List.mem_cons_of_mem _ ht)
theorem tf_one : ∀ (t1 : List Str) (t : Str) (t2 : List Str) (k : Nat) (acc : Str), Fr acc.cps.toList → (∀ t ∈ t1, Fr t.cps.toList) → On t.cps.toList → (∀ t ∈ t2, Fr t.cps.toList) → On (textFrom k acc (t1 ++ t :: t2)).cps.toList
  | [], t, t2, k, acc, ha, _, ht, h2 => tf_on t2 (k + 1) _ (by rw [cps_app, cps_app]; exact On.pre (ha.app (fr_sep k)) ht) h2
  | s :: t1, t, t2, k, acc, ha, h1, ht, h2 => tf_one t1 t t2 (k + 1) _ (by rw [cps_app, cps_app]; exact (ha.app (fr_sep k)).app (h1 s List.mem_cons_self)) (fun t ht => h1 t (List.mem_cons_of_mem _ ht)) ht h2
theorem fr_list (xs : List PyData) (h : ∀ x ∈ xs, Fr x.shown.cps.toList) : Fr (PyData.list xs).shown.cps.toList := by
  simp only [PyData.shown, listText]
  rw [cps_app]
  refine (tf_free _ _ _ (fr_str _ (by decide +kernel)) fun t ht => ?_).app (fr_str _ (by decide +kernel))
  rw [shownAll_eq_map] at ht
  obtain ⟨x, hx, rfl⟩ := List.mem_map.mp ht
  exact h x hx
theorem on_list (x1 : List PyData) (x : PyData) (x2 : List PyData) (h1 : ∀ x ∈ x1, Fr x.shown.cps.toList) (h : On x.shown.cps.toList) (h2 : ∀ x ∈ x2, Fr x.shown.cps.toList) : On (PyData.list (x1 ++ x :: x2)).shown.cps.toList := by
  simp only [PyData.shown, listText]
  rw [cps_app, shownAll_eq_map, List.map_append, List.map_cons]
  refine (tf_one _ _ _ _ _ (fr_str _ (by decide +kernel)) (fun t ht => ?_) h fun t ht => ?_).app (fr_str _ (by decide +kernel))
  · obtain ⟨x, hx, rfl⟩ := List.mem_map.mp ht
    exact h1 x hx
  · obtain ⟨x, hx, rfl⟩ := List.mem_map.mp ht
    exact h2 x hx
theorem fr_int (i : Int) : Fr (PyData.int i).shown.cps.toList := fun q => (shown_int_free_39 i).mp q
theorem on_mark : On (PyData.str "mark").shown.cps.toList := ⟨[], [], by decide +kernel, by simp, by simp⟩
theorem mark_cps : ("'mark'" : Str).cps.toList = mk6 := by decide +kernel
end Im
namespace Im
open PySem PySem.Spec PyProof.Rows L2
theorem fmod_lo {a b : Int} (h : 0 < b) : 0 ≤ a.fmod b := by rw [Int.fmod_eq_emod_of_nonneg _ (Int.le_of_lt h)]; exact Int.emod_nonneg _ (by omega)
theorem fmod_hi {a b : Int} (h : 0 < b) : a.fmod b < b := by rw [Int.fmod_eq_emod_of_nonneg _ (Int.le_of_lt h)]; exact Int.emod_lt_of_pos _ h
theorem fdiv_lo {a b : Int} (h : 0 < b) (ha : 0 ≤ a) : 0 ≤ a.fdiv b := by rw [Int.fdiv_eq_ediv_of_nonneg _ (Int.le_of_lt h)]; exact Int.ediv_nonneg ha (Int.le_of_lt h)
@[simp] theorem whole_int (i : Int) : F_is_whole [.int i] = .ok (.bl true) [none] := by rfl
@[simp] theorem whole_bl (b : Bool) : F_is_whole [.bl b] = .ok (.bl false) [none] := by rfl
@[simp] theorem whole_str (b : Str) : F_is_whole [.str b] = .ok (.bl false) [none] := by rfl
@[simp] theorem whole_non : F_is_whole [.non] = .ok (.bl false) [none] := by rfl
@[simp] theorem whole_lst (xs) : F_is_whole [.lst xs] = .ok (.bl false) [none] := by rfl
@[simp] theorem whole_tup (xs) : F_is_whole [.tup xs] = .ok (.bl false) [none] := by rfl
theorem side_int (i : Int) (h : 0 ≤ i) (h' : i ≤ 6) : F_check_side [.int i] = .ok .non [none] := by
  unfold F_check_side runF m_check_side
  simp [h, h']
theorem hash_ok (s c : Int) (h : 0 ≤ c) (h' : c < 2 ^ 40) : ∃ r ios, F__law_hash [.int s, .int c] = .ok (.int r) ios := by
  have e1 : -18446744073709551616 < c := by omega
  have e2 : c < 18446744073709551616 := by omega
  have lo := fmod_lo (a := s * 1220147 + 16777903 * c * c + 223 * c + 97) (b := 2147483629) (by decide)
  have hi := fmod_hi (a := s * 1220147 + 16777903 * c * c + 223 * c + 97) (b := 2147483629) (by decide)
  have f1 : -18446744073709551616 < (s * 1220147 + 16777903 * c * c + 223 * c + 97).fmod 2147483629 := by omega
  have f2 : (s * 1220147 + 16777903 * c * c + 223 * c + 97).fmod 2147483629 < 18446744073709551616 := by omega
  unfold F__law_hash runF m__law_hash
  simp [e1, e2, f1, f2]
/-- a generator: not below 0 in its first cell, its third at most k -/
def Gn (k : Int) (g : D) : Prop := ∃ a b c : Int, g = .lst [.int a, .int b, .int c] ∧ 0 ≤ a ∧ 0 ≤ c ∧ c ≤ k
theorem rnd_ok {k n : Int} {g : D} (h : Gn k g) (hk : k < 1000000) (h0 : 0 < n) (h1 : n < 1000) (hb : (1 + ((Builtin.Int.intBits n : Nat) : Int).fdiv 30) = 1) :
    ∃ (r : Int) (g' : D), F__law_random [g, .int n] = .ok (.int r) [some g', none, none, none] ∧ 0 ≤ r ∧ r < n ∧ Gn (k + 1) g' := by
  obtain ⟨a, b, c, rfl, ha, hc, hc2⟩ := h
  have n0 : n ≠ 0 := by omega
  have n1 : n.natAbs < 1073741824 := by omega
  by_cases ha' : 0 < a
  · refine ⟨a.fmod n, .lst [.int (a.fdiv n), .int b, .int c], ?_, fmod_lo h0, fmod_hi h0, a.fdiv n, b, c, rfl, fdiv_lo h0 ha, hc, by omega⟩
    unfold F__law_random runF m__law_random
    simp [ha', n0, n1]
  · obtain ⟨r, ios, hh⟩ := hash_ok b (c + 1) (by omega) (by omega)
    refine ⟨(r).fmod n, .lst [.int a, .int b, .int (c + 1)], ?_, fmod_lo h0, fmod_hi h0, a, b, c + 1, rfl, ha, by omega, by omega⟩
    unfold F__law_random runF m__law_random
    simp [ha', n0, n1, hb, hh, rngD, List.range_succ, loop_cons, loop_nil, lStep]
theorem atI_ok {α : Type} {xs : List α} {r : Int} (h0 : 0 ≤ r) (h1 : r < xs.length) : ∃ x, atI xs r = some x ∧ x ∈ xs := by
  have hr : r.toNat < xs.length := by omega
  refine ⟨xs[r.toNat], ?_, List.getElem_mem hr⟩
  unfold atI
  simp [h0, h1, hr]
theorem pick_ok {k : Int} {g : D} {xs : List D} (h : Gn k g) (hk : k < 1000000) (h0 : 0 < xs.length) (h1 : xs.length < 1000) (hb : (1 + ((Builtin.Int.intBits (xs.length : Nat) : Nat) : Int).fdiv 30) = 1) :
    ∃ (x g' : D), F__law_pick [g, .lst xs] = .ok x [some g', none] ∧ x ∈ xs ∧ Gn (k + 1) g' := by
  obtain ⟨r, g', e, r0, r1, G'⟩ := rnd_ok (n := (xs.length : Nat)) h hk (by omega) (by omega) hb
  obtain ⟨x, ex, hx⟩ := atI_ok (xs := xs) r0 r1
  refine ⟨x, g', ?_, hx, G'⟩
  unfold F__law_pick runF m__law_pick
  simp [e, ex]
theorem ints_map : ∀ ns : List Int, intsD (ns.map .int) = some ns
  | [] => rfl
  | n :: ns => by simp [intsD, ints_map ns]
theorem cell_ok (ns : List Int) (i : Nat) : ∃ v ios, F__law_cell [.scr ns, .int i] = .ok (.int v) ios := by
  unfold F__law_cell runF m__law_cell
  by_cases h : i < ns.length
  · obtain ⟨x, ex, hx⟩ := atI_ok (xs := ns) (r := (i : Int)) (by omega) (by omega)
    simp [h, ex]
  · simp [h, mSl, mpN, mpS, dSlice, dSum, ints_map]
theorem gen_ok (ns : List Int) (i : Nat) (hi : i < 4) : ∃ g ios, F__law_generator [.scr ns, .int i] = .ok g ios ∧ Gn 3000 g := by
  obtain ⟨v, ios, e⟩ := cell_ok ns i
  refine ⟨.lst [.int ((if 0 > v - 10 ^ 18 then 0 else v - 10 ^ 18).fmod ((10 ^ 60) ^ 10)), .int (v.fmod 2147483647), .int (1000 * i)], [none, none, none], ?_, _, _, _, rfl, fmod_lo (by decide), by omega, by omega⟩
  unfold F__law_generator runF m__law_generator
  simp [e, cPow, show (Builtin.Int.intBits 10 : Nat) = 4 by decide, show Builtin.Int.intBits 1000000000000000000000000000000000000000000000000000000000000 = 200 by decide +kernel]
/-! ### words -/
def cR : Bool → Nat := fun b => if b then 82 else 85
def Wd (l : List Bool) : Str := ⟨(l.map cR).toArray⟩
def sg1 (b : Bool) : Str := ⟨#[cR b]⟩
theorem eqD_str (a b : Str) (ha : PyData.strOk a = true) (hb : PyData.strOk b = true) : eqD false (.str a) (.str b) = some (.bl (decide (a = b))) := by
  simp [eqD, toP, SeqAt.shaped, PyData.eqv, PyData.canLay0, PyData.depth]
  refine ⟨⟨ha, hb⟩, ?_⟩
  by_cases h : a = b <;> simp [h]
theorem eqD_int (i j : Int) : eqD false (.int i) (.int j) = some (.bl (decide (i = j))) := by
  simp [eqD, toP, SeqAt.shaped, PyData.eqv, PyData.canLay0, PyData.depth]
  by_cases h : i = j <;> simp [h]
@[simp] theorem eq_R (b : Bool) : eqD false (.str (sg1 b)) (.str "R") = some (.bl b) := by cases b <;> rw [eqD_str _ _ (by decide +kernel) (by decide +kernel)] <;> rfl
@[simp] theorem eq_U (b : Bool) : eqD false (.str (sg1 b)) (.str "U") = some (.bl (!b)) := by cases b <;> rw [eqD_str _ _ (by decide +kernel) (by decide +kernel)] <;> rfl
theorem chars_W (l : List Bool) : chars (Wd l) = l.map fun b => .str (sg1 b) := by
  simp [chars, Wd, sg1, List.map_map, Function.comp_def]
def pt (r u : Int) : D := .tup [.int r, .int u]
theorem toP_ints : ∀ is : List Int, toPL (is.map D.int) = some (is.map PyData.int)
  | [] => rfl
  | i :: is => by simp [toPL, toP, toP_ints is]
theorem eqD_nil {ds : List D} {ps : List PyData} (h : toPL ds = some ps) (hs : SeqAt.shaped (.list ps) = true) : eqD true (.lst ds) (.lst []) = some (.bl (!ds.isEmpty)) := by
  have e : SeqAt.shaped (.list []) = true := by decide +kernel
  cases ds with
  | nil => cases h; simp [eqD, toP, toPL, e, PyData.eqv, PyData.eqvAll]
  | cons d ds =>
    cases ps with
    | nil => simp [toPL] at h; split at h <;> cases h
    | cons p ps => simp [eqD, toP, h, e, hs]; simp [toPL, e, hs, PyData.eqv, PyData.eqvAll]
theorem lay_ints : ∀ is : List Int, PyData.canLay0 (.list (is.map PyData.int)) = true ∧ (PyData.list (is.map PyData.int)).depth ≤ 64 := by
  intro is
  have a : ∀ is : List Int, PyData.canLayAll0 (is.map PyData.int) = true := fun is => by
    induction is with
    | nil => rfl
    | cons i is ih => simp [PyData.canLayAll0, PyData.canLay0, ih]
  have b : ∀ is : List Int, PyData.depthAll (is.map PyData.int) ≤ 1 := fun is => by
    induction is with
    | nil => simp [PyData.depthAll]
    | cons i is ih => simp [PyData.depthAll, PyData.depth]; omega
  have := b is
  simp [PyData.canLay0, PyData.depth, a]
  omega
/-! ### ways asked -/
theorem strOk_W (l : List Bool) : PyData.strOk (Wd l) = true := by
  simp [PyData.strOk, Wd, cR]
theorem len_W (l : List Bool) : (Wd l).length = l.length := by
  show (Wd l).cps.size = _
  simp [Wd]
@[simp] theorem is_tup_tup (xs : List D) : dIsI "tuple" (.tup xs) = some (.bl true) := by rfl
@[simp] theorem is_str_str (x : Str) : dIsI "str" (.str x) = some (.bl true) := by rfl
@[simp] theorem ne_2 : eqD true (.int 2) (.int 2) = some (.bl false) := by
  simp [eqD, toP, SeqAt.shaped, PyData.eqv, PyData.canLay0, PyData.depth]
@[simp] theorem place_pt (i j : Int) : F_is_place [pt i j] = .ok (.bl (decide (0 ≤ i) && decide (i ≤ 12) && (decide (0 ≤ j) && decide (j ≤ 12)))) [none] := by
  unfold F_is_place runF m_is_place
  by_cases a : 0 ≤ i <;> by_cases b : i ≤ 12 <;> by_cases c : 0 ≤ j <;> by_cases d : j ≤ 12 <;> simp [pt, a, b, c, d]
theorem in_RU (b : Bool) : dInS false (.str (sg1 b)) (.str "RU") = some (.bl true) := by
  show some (D.bl (!(Builtin.Str.occurrences "RU" (sg1 b) 0 _ 1).isEmpty)) = _
  rw [show sg1 b = ⟨#[cR b]⟩ from rfl, PySem.StrLaws.found_one, decide_eq_true (show cR b ∈ ("RU" : Str).cps.toList by cases b <;> decide +kernel)]
theorem all_loop (w : D) : ∀ (l : List Bool) (acc : List D), acc.length + l.length < lim →
    compM (gSet 1) (mC (.bl true)) (mB (dInS false) (mVarS 1) (mC (.str "RU"))) [1] (l.map fun b => .str (sg1 b)) acc [some w, none] = .ok (.lst (acc ++ l.map fun _ => .bl true)) [some w, none]
  | [], acc, _ => by simp [compM]
  | b :: l, acc, hz => by
    simp only [List.length_cons] at hz
    have hz2 : acc.length < lim := by omega
    have ih := all_loop w l (acc ++ [.bl true]) (by simp [-y_lim]; omega)
    rw [List.map_cons]
    unfold compM
    simp at ih
    simp [in_RU, hz2, killE, ih]
theorem cnt_le (c : Nat) : ∀ l : List Nat, 0 ≤ cnt c l ∧ cnt c l ≤ l.length
  | [] => by simp [cnt, countIn]
  | x :: l => by
    have ih := cnt_le c l
    unfold cnt at ih ⊢
    simp only [List.map_cons, countIn, List.length_cons]
    split <;> omega
theorem endof_ok (l : List Bool) (h : l.length ≤ 12) : ∃ i j : Int, F_end_of [.tup [.str "way", pt 0 0, .str (Wd l)]] = .ok (pt i j) [none] ∧ 0 ≤ i ∧ i ≤ 12 ∧ 0 ≤ j ∧ j ≤ 12 := by
  have a := cnt_le 82 (Wd l).cps.toList
  have b := cnt_le 85 (Wd l).cps.toList
  have e : (Wd l).cps.toList.length = l.length := by simp [Wd]
  rw [e] at a b
  refine ⟨cnt 82 (Wd l).cps.toList, cnt 85 (Wd l).cps.toList, ?_, by omega, by omega, by omega, by omega⟩
  have q1 : Txt.count (Wd l) "R" = cnt 82 (Wd l).cps.toList := count_cnt _ _
  have q2 : Txt.count (Wd l) "U" = cnt 85 (Wd l).cps.toList := count_cnt _ _
  unfold F_end_of runF m_end_of
  simp [pt, mS, dCount, q1, q2]
theorem bls_true : ∀ l : List Bool, dAll (.lst (l.map fun _ => D.bl true)) = some (.bl true) := by
  intro l
  have z : ∀ l : List Bool, blsD (l.map fun _ => D.bl true) = some (l.map fun _ => true) := fun l => by
    induction l with
    | nil => rfl
    | cons b l ih => simp [blsD, ih]
  simp [dAll, z]
theorem way_ok (l : List Bool) (h : l.length ≤ 12) : F_is_way_by [.tup [.str "way", pt 0 0, .str (Wd l)]] = .ok (.bl true) [none, none] := by
  obtain ⟨i, j, e, i0, i1, j0, j1⟩ := endof_ok l h
  have k := all_loop (.tup [.str "way", pt 0 0, .str (Wd l)]) l [] (by simp [lim]; omega)
  have lw := len_W l
  have hl : l.length ≤ lim := by simp [lim]; omega
  have h12 : ¬ (12 : Int) < l.length := by omega
  have q : eqD true (.str "way") (.str "way") = some (.bl false) := by simp [eqD, toP, SeqAt.shaped, PyData.eqv, PyData.canLay0, PyData.depth]; decide +kernel
  have q3 : eqD true (.int 3) (.int 3) = some (.bl false) := by simp [eqD, toP, SeqAt.shaped, PyData.eqv, PyData.canLay0, PyData.depth]
  simp only [List.nil_append] at k
  unfold F_is_way_by runF m_is_way_by
  generalize (mB (dInS false) (mVarS 1) (mC (.str "RU"))) = me at k ⊢
  simp [q, q3, lw, hl, h12, mLc, killE, chars_W, k, bls_true, e, i0, i1, j0, j1]
theorem eqv_00 : eqD true (pt 0 0) (.tup [.int 0, .int 0]) = some (.bl false) := by
  simp [pt, eqD, toP, toPL, SeqAt.shaped, PyData.eqv, PyData.eqvAll, PyData.canLay0, PyData.canLayAll0, PyData.depth, PyData.depthAll]
theorem from_ok (l : List Bool) (h : l.length ≤ 12) : F_check_from [.tup [.str "way", pt 0 0, .str (Wd l)]] = .ok .non [none] := by
  unfold F_check_from runF m_check_from
  simp [way_ok l h, eqv_00]
theorem cut_to (l : List Bool) (n : Nat) (h : n ≤ l.length) : cutS (Wd l) none (some (n : Int)) = Wd (l.take n) := by
  have e := len_W l
  unfold cutS
  rw [e, HT.sIx_none, HT.sIx_nat, Nat.min_eq_left h]
  simp [Wd]
theorem cut_from (l : List Bool) (n : Nat) (h : n ≤ l.length) : cutS (Wd l) (some (n : Int)) none = Wd (l.drop n) := by
  have e := len_W l
  unfold cutS
  rw [e, HT.sIx_none, HT.sIx_nat, Nat.min_eq_left h]
  rw [List.take_of_length_le (by simp [Wd])]
  simp [Wd]
theorem join_W : ∀ l : List Bool, Txt.join "" (l.map sg1) = Wd l := by
  intro l
  show Builtin.Str.glued "" (l.map sg1) = _
  cases l with
  | nil => rfl
  | cons b l =>
    show (⟨(l.map sg1).foldl (fun acc p => acc ++ ("" : Str).cps ++ p.cps) (sg1 b).cps⟩ : Str) = _
    have e : ∀ (l : List Bool) (a : Array Nat), (l.map sg1).foldl (fun acc p => acc ++ ("" : Str).cps ++ p.cps) a = a ++ (Wd l).cps := fun l => by
      induction l with
      | nil => intro a; simp [Wd]
      | cons b l ih =>
        intro a
        rw [List.map_cons, List.foldl_cons, ih]
        have z : ("" : Str).cps = #[] := by rfl
        simp [z, Wd, sg1]
    rw [e]
    simp [Wd, sg1]
theorem wd_app (a b : List Bool) : Wd a ++ Wd b = Wd (a ++ b) := by
  show (⟨(Wd a).cps ++ (Wd b).cps⟩ : Str) = _
  simp [Wd]
theorem strs_sg : ∀ l : List Bool, strsD (l.map fun b => D.str (sg1 b)) = some (l.map sg1)
  | [] => rfl
  | b :: l => by simp [strsD, strs_sg l]
theorem sum_sg : ∀ l : List Bool, ((l.map sg1).map Str.length).sum = l.length
  | [] => rfl
  | b :: l => by
    have := sum_sg l
    have z : (sg1 b).length = 1 := rfl
    simp [z] at this ⊢
    omega
theorem join_ok (l : List Bool) (h : l.length ≤ 1000) : dJoin (.str "") (.lst (l.map fun b => D.str (sg1 b))) = some (.str (Wd l)) := by
  have z : ("" : Str).length = 0 := rfl
  show (match strsD (l.map fun b => D.str (sg1 b)) with
    | some ys => if (ys.map Str.length).sum + ys.length * ("" : Str).length ≤ lim then some (D.str (Txt.join "" ys)) else none
    | none => none) = _
  rw [strs_sg]
  show (if ((l.map sg1).map Str.length).sum + (l.map sg1).length * ("" : Str).length ≤ lim then some (D.str (Txt.join "" (l.map sg1))) else none) = _
  rw [sum_sg, z, if_pos (by simp [lim]; omega), join_W]
abbrev wy (l : List Bool) : D := .tup [.str "way", pt 0 0, .str (Wd l)]
/-! ### all words -/
abbrev T3 := List Bool × Nat × Nat
def encT (t : T3) : D := .tup [.str (Wd t.1), .int (t.2.1 : Nat), .int (t.2.2 : Nat)]
def stp1 (t : T3) : List T3 := (if 0 < t.2.1 then [(t.1 ++ [true], t.2.1 - 1, t.2.2)] else []) ++ (if 0 < t.2.2 then [(t.1 ++ [false], t.2.1, t.2.2 - 1)] else [])
def stp : List T3 → List T3
  | [] => []
  | t :: l => stp1 t ++ stp l
def itr (l : List T3) : Nat → List T3
  | 0 => l
  | n + 1 => stp (itr l n)
def wds (r u : Nat) : List (List Bool) := (itr [([], r, u)] (r + u)).map (·.1)
theorem stp1_len (t : T3) : (stp1 t).length ≤ 2 := by
  unfold stp1
  split <;> split <;> simp
theorem stp_len : ∀ l : List T3, (stp l).length ≤ 2 * l.length
  | [] => Nat.le_refl _
  | t :: l => by
    have := stp_len l
    have := stp1_len t
    simp only [stp, List.length_append, List.length_cons]
    omega
theorem itr_len (t : T3) : ∀ n, (itr [t] n).length ≤ 2 ^ n
  | 0 => by simp [itr]
  | n + 1 => by
    have := itr_len t n
    have := stp_len (itr [t] n)
    rw [Nat.pow_succ]
    simp only [itr]
    omega
theorem stp_wd (m : Nat) : ∀ l : List T3, (∀ t ∈ l, t.1.length = m) → ∀ t ∈ stp l, t.1.length = m + 1
  | [], _, t, h => by simp [stp] at h
  | s :: l, hl, t, h => by
    simp only [stp, List.mem_append] at h
    rcases h with h | h
    · unfold stp1 at h
      have hs := hl s List.mem_cons_self
      rcases List.mem_append.mp h with h | h
      · split at h
        · simp at h; subst h; simp [hs]
        · cases h
      · split at h
        · simp at h; subst h; simp [hs]
        · cases h
    · exact stp_wd m l (fun t ht => hl t (List.mem_cons_of_mem _ ht)) t h
theorem itr_wd (r u : Nat) : ∀ n, ∀ t ∈ itr [([], r, u)] n, t.1.length = n
  | 0, t, h => by simp [itr] at h; subst h; rfl
  | n + 1, t, h => stp_wd n _ (itr_wd r u n) t h
theorem wds_wd (r u : Nat) : ∀ w ∈ wds r u, w.length = r + u := by
  intro w h
  unfold wds at h
  obtain ⟨t, ht, rfl⟩ := List.mem_map.mp h
  exact itr_wd r u _ t ht
theorem wds_len (r u : Nat) (h : r + u ≤ 12) : (wds r u).length ≤ 4096 := by
  have a := itr_len ([], r, u) (r + u)
  have b : 2 ^ (r + u) ≤ 2 ^ 12 := Nat.pow_le_pow_right (by decide) h
  unfold wds
  rw [List.length_map]
  omega
theorem wR (w : List Bool) : Wd w ++ ("R" : Str) = Wd (w ++ [true]) := by
  rw [← wd_app]; rfl
theorem wU (w : List Bool) : Wd w ++ ("U" : Str) = Wd (w ++ [false]) := by
  rw [← wd_app]; rfl
theorem len_R : ("R" : Str).length = 1 := rfl
theorem len_U : ("U" : Str).length = 1 := rfl
theorem inner_law (a b f t : Option D) : ∀ (l : List T3) (acc : List D) (e5 e6 e7 : Option D), acc.length + 2 * l.length ≤ 100000 → (∀ s ∈ l, s.1.length ≤ 1000) → ∃ e5' e6' e7',
    loopM (mgTup 3 (gCons (gSet 5) (gCons (gSet 6) (gCons (gSet 7) gNil)))) (mSet 4 (mB dCat (mB dCat (mVar 4) (mB dRep (mLst (mCons (mTup (mCons (mB dAddX (mVarS 5) (mC (.str "R"))) (mCons (mB dSub (mVarS 6) (mC (.int 1))) (mCons (mVarS 7) mNil)))) mNil)) (m1 dInt (mB dGt (mVarS 6) (mC (.int 0)))))) (mB dRep (mLst (mCons (mTup (mCons (mB dAddX (mVarS 5) (mC (.str "U"))) (mCons (mVarS 6) (mCons (mB dSub (mVarS 7) (mC (.int 1))) mNil)))) mNil)) (m1 dInt (mB dGt (mVarS 7) (mC (.int 0)))))))
      (l.map encT) [a, b, f, t, some (.lst acc), e5, e6, e7] = .nx [a, b, f, t, some (.lst (acc ++ (stp l).map encT)), e5', e6', e7']
  | [], acc, e5, e6, e7, _, _ => ⟨e5, e6, e7, by simp [stp]⟩
  | s :: l, acc, e5, e6, e7, hz, hw => by
    simp only [List.length_cons] at hz
    have h1 := stp1_len s
    have hs := hw s List.mem_cons_self
    obtain ⟨e5', e6', e7', ih⟩ := inner_law a b f t l (acc ++ (stp1 s).map encT) (some (.str (Wd s.1))) (some (.int (s.2.1 : Nat))) (some (.int (s.2.2 : Nat))) (by simp; omega) (fun t ht => hw t (List.mem_cons_of_mem _ ht))
    refine ⟨e5', e6', e7', ?_⟩
    rw [List.map_cons, loop_cons]
    have k1 : (Wd s.1).length + ("R" : Str).length ≤ lim := by rw [len_W, len_R]; simp [lim]; omega
    have k2 : (Wd s.1).length + ("U" : Str).length ≤ lim := by rw [len_W, len_U]; simp [lim]; omega
    have k3 : acc.length + 1 ≤ lim := by simp [lim]; omega
    have k4 : acc.length + 1 + 1 ≤ lim := by simp [lim]; omega
    have k5 : acc.length ≤ lim := by simp [lim]; omega
    obtain ⟨w, r, u⟩ := s
    cases r with
    | zero =>
      cases u with
      | zero => simp [encT, k1, k2, k3, k4, k5, stp, stp1] at ih ⊢; exact ih
      | succ u =>
        simp [encT, k1, k2, k3, k4, k5, stp, stp1, wR, wU] at ih ⊢
        exact ih
    | succ r =>
      cases u with
      | zero => simp [encT, k1, k2, k3, k4, k5, stp, stp1, wR, wU] at ih ⊢; exact ih
      | succ u =>
        simp [encT, k1, k2, k3, k4, k5, stp, stp1, wR, wU] at ih ⊢
        exact ih
theorem law_words (r u : Nat) (h : r + u ≤ 12) : ∃ ios, F__law_words [.int (r : Nat), .int (u : Nat)] = .ok (.lst ((wds r u).map fun w => .str (Wd w))) ios := by
  have hb : ∀ n, n ≤ r + u → (itr [([], r, u)] n).length ≤ 4096 := fun n hn => by
    have a := itr_len ([], r, u) n
    have b : 2 ^ n ≤ 2 ^ 12 := Nat.pow_le_pow_right (by decide) (by omega)
    omega
  unfold F__law_words runF m__law_words
  generalize hB : (mSeq (mSet 4 (mLst mNil)) _) = body
  obtain ⟨en', q, e3, e4, e5, e6, e7, he⟩ := loop_rng (g := gSet 3) (mb := body) (fun n en => ∃ e3 e4 e5 e6 e7, en = [some (.int (r : Nat)), some (.int (u : Nat)), some (.lst ((itr [([], r, u)] n).map encT)), e3, e4, e5, e6, e7]) (r + u) [some (.int (r : Nat)), some (.int (u : Nat)), some (.lst ([([], r, u)].map encT)), none, none, none, none, none] (fun i en hi ⟨e3, e4, e5, e6, e7, he⟩ => by
      subst he hB
      obtain ⟨e5', e6', e7', ih⟩ := inner_law (some (.int (r : Nat))) (some (.int (u : Nat))) (some (.lst ((itr [([], r, u)] i).map encT))) (some (.int (i : Nat))) (itr [([], r, u)] i) [] e5 e6 e7 (by have := hb i (by omega); simp; omega) (fun s hs => by have := itr_wd r u i s hs; omega)
      simp at ih ⊢
      simp [ih, itr]) ⟨_, _, _, _, _, rfl⟩
  subst he
  have c := comp_map (g := mgTup 3 (gCons (gSet 5) (gCons (gSet 6) (gCons (gSet 7) gNil)))) (mt := mC (.bl true)) (me := mVarS 5) (vs := [5, 6, 7]) (en := [some (.int (r : Nat)), some (.int (u : Nat)), some (.lst ((itr [([], r, u)] (r + u)).map encT)), e3, e4, none, none, none]) encT (fun t => .str (Wd t.1)) (itr [([], r, u)] (r + u)) (by have := hb (r + u) (by omega); simp; omega) (fun x _ => by simp [encT])
  have k1 : -1000000 ≤ (r : Int) + (u : Int) := by omega
  have k2 : (r : Int) + (u : Int) ≤ 1000000 := by omega
  have k3 : ((r : Int) + (u : Int)).toNat = r + u := by omega
  have e0 : (("" : Str)) = Wd [] := rfl
  simp [encT] at q c
  simp [k1, k2, k3, e0, q, c, wds, Function.comp_def]
theorem inner_own (a b f t : Option D) : ∀ (l : List T3) (acc : List D) (e5 e6 e7 : Option D), acc.length + 2 * l.length ≤ 100000 → (∀ s ∈ l, s.1.length ≤ 1000) → ∃ e5' e6' e7',
    loopM (mgTup 3 (gCons (gSet 5) (gCons (gSet 6) (gCons (gSet 7) gNil)))) (mSeq (mSet 4 (mB dCat (mVar 4) (mIf (mB dGt (mVarS 6) (mC (.int 0))) (mLst (mCons (mTup (mCons (mB dAddX (mVarS 5) (mC (.str "R"))) (mCons (mB dSub (mVarS 6) (mC (.int 1))) (mCons (mVarS 7) mNil)))) mNil)) (mLst mNil))))
  (mSet 4 (mB dCat (mVar 4) (mIf (mB dGt (mVarS 7) (mC (.int 0))) (mLst (mCons (mTup (mCons (mB dAddX (mVarS 5) (mC (.str "U"))) (mCons (mVarS 6) (mCons (mB dSub (mVarS 7) (mC (.int 1))) mNil)))) mNil)) (mLst mNil)))))
      (l.map encT) [a, b, f, t, some (.lst acc), e5, e6, e7] = .nx [a, b, f, t, some (.lst (acc ++ (stp l).map encT)), e5', e6', e7']
  | [], acc, e5, e6, e7, _, _ => ⟨e5, e6, e7, by simp [stp]⟩
  | s :: l, acc, e5, e6, e7, hz, hw => by
    simp only [List.length_cons] at hz
    have h1 := stp1_len s
    have hs := hw s List.mem_cons_self
    obtain ⟨e5', e6', e7', ih⟩ := inner_own a b f t l (acc ++ (stp1 s).map encT) (some (.str (Wd s.1))) (some (.int (s.2.1 : Nat))) (some (.int (s.2.2 : Nat))) (by simp; omega) (fun t ht => hw t (List.mem_cons_of_mem _ ht))
    refine ⟨e5', e6', e7', ?_⟩
    rw [List.map_cons, loop_cons]
    have k1 : (Wd s.1).length + ("R" : Str).length ≤ lim := by rw [len_W, len_R]; simp [lim]; omega
    have k2 : (Wd s.1).length + ("U" : Str).length ≤ lim := by rw [len_W, len_U]; simp [lim]; omega
    have k3 : acc.length + 1 ≤ lim := by simp [lim]; omega
    have k4 : acc.length + 1 + 1 ≤ lim := by simp [lim]; omega
    have k5 : acc.length ≤ lim := by simp [lim]; omega
    obtain ⟨w, r, u⟩ := s
    cases r with
    | zero =>
      cases u with
      | zero => simp [encT, k1, k2, k3, k4, k5, stp, stp1] at ih ⊢; exact ih
      | succ u =>
        simp [encT, k1, k2, k3, k4, k5, stp, stp1, wR, wU] at ih ⊢
        exact ih
    | succ r =>
      cases u with
      | zero => simp [encT, k1, k2, k3, k4, k5, stp, stp1, wR, wU] at ih ⊢; exact ih
      | succ u =>
        simp [encT, k1, k2, k3, k4, k5, stp, stp1, wR, wU] at ih ⊢
        exact ih
theorem own_words (r u : Nat) (h : r + u ≤ 12) : ∃ ios, F_words_with [.int (r : Nat), .int (u : Nat)] = .ok (.lst ((wds r u).map fun w => .str (Wd w))) ios := by
  have hb : ∀ n, n ≤ r + u → (itr [([], r, u)] n).length ≤ 4096 := fun n hn => by
    have a := itr_len ([], r, u) n
    have b : 2 ^ n ≤ 2 ^ 12 := Nat.pow_le_pow_right (by decide) (by omega)
    omega
  unfold F_words_with runF m_words_with
  generalize hB : (mSeq (mSet 4 (mLst mNil)) _) = body
  obtain ⟨en', q, e3, e4, e5, e6, e7, he⟩ := loop_rng (g := gSet 3) (mb := body) (fun n en => ∃ e3 e4 e5 e6 e7, en = [some (.int (r : Nat)), some (.int (u : Nat)), some (.lst ((itr [([], r, u)] n).map encT)), e3, e4, e5, e6, e7]) (r + u) [some (.int (r : Nat)), some (.int (u : Nat)), some (.lst ([([], r, u)].map encT)), none, none, none, none, none] (fun i en hi ⟨e3, e4, e5, e6, e7, he⟩ => by
      subst he hB
      obtain ⟨e5', e6', e7', ih⟩ := inner_own (some (.int (r : Nat))) (some (.int (u : Nat))) (some (.lst ((itr [([], r, u)] i).map encT))) (some (.int (i : Nat))) (itr [([], r, u)] i) [] e5 e6 e7 (by have := hb i (by omega); simp; omega) (fun s hs => by have := itr_wd r u i s hs; omega)
      simp at ih ⊢
      simp [ih, itr]) ⟨_, _, _, _, _, rfl⟩
  subst he
  have c := comp_map (g := mgTup 3 (gCons (gSet 5) (gCons (gSet 3) (gCons (gSet 3) gNil)))) (mt := mC (.bl true)) (me := mVarS 5) (vs := [5, 3]) (en := [some (.int (r : Nat)), some (.int (u : Nat)), some (.lst ((itr [([], r, u)] (r + u)).map encT)), none, e4, none, e6, e7]) encT (fun t => .str (Wd t.1)) (itr [([], r, u)] (r + u)) (by have := hb (r + u) (by omega); simp; omega) (fun x _ => by simp [encT])
  have k1 : -1000000 ≤ (r : Int) + (u : Int) := by omega
  have k2 : (r : Int) + (u : Int) ≤ 1000000 := by omega
  have k3 : ((r : Int) + (u : Int)).toNat = r + u := by omega
  have e0 : (("" : Str)) = Wd [] := rfl
  simp [encT] at q c
  simp [k1, k2, k3, e0, q, c, wds, Function.comp_def]
/-! ### how many -/
def chs (n : Int) : Nat → Int
  | 0 => 1
  | k + 1 => (chs n k * (n - k)).fdiv (k + 1)
theorem chosen_ok (n k : Nat) (hn : n ≤ 20) (hk : k ≤ 20) : ∃ ios, F__law_chosen [.int (n : Nat), .int (k : Nat)] = .ok (.int (chs (n : Nat) k)) ios := by
  unfold F__law_chosen runF m__law_chosen
  generalize hB : (mSet 2 (mB dDiv _ _)) = body
  obtain ⟨en', q, e3, he⟩ := loop_rng (g := gSet 3) (mb := body) (fun i en => ∃ e3, en = [some (.int (n : Nat)), some (.int (k : Nat)), some (.int (chs (n : Nat) i)), e3]) k [some (.int (n : Nat)), some (.int (k : Nat)), some (.int 1), none] (fun i en hi ⟨e3, he⟩ => by
      subst he hB
      have a1 : -18446744073709551616 < (n : Int) - (i : Int) := by omega
      have a2 : (n : Int) - (i : Int) < 18446744073709551616 := by omega
      have a3 : ¬ ((i : Int) + 1 = 0) := by omega
      have a4 : ((i : Int) + 1).natAbs < 1073741824 := by omega
      simp [a1, a2, a3, a4, chs]) ⟨_, rfl⟩
  subst he
  have k1 : -1000000 ≤ (k : Int) := by omega
  have k2 : (k : Int) ≤ 1000000 := by omega
  simp [k1, k2, q]
def all7 (f : Nat → Bool) : Bool := f 0 && f 1 && f 2 && f 3 && f 4 && f 5 && f 6
theorem all7_at {f : Nat → Bool} (h : all7 f = true) {n : Nat} (hn : n ≤ 6) : f n = true := by
  unfold all7 at h
  simp only [Bool.and_eq_true] at h
  match n, hn with
  | 0, _ => exact h.1.1.1.1.1.1
  | 1, _ => exact h.1.1.1.1.1.2
  | 2, _ => exact h.1.1.1.1.2
  | 3, _ => exact h.1.1.1.2
  | 4, _ => exact h.1.1.2
  | 5, _ => exact h.1.2
  | 6, _ => exact h.2
/-- what `_law_exact` looks through -/
def Exa : Nat → D → Prop
  | 0, _ => False
  | n + 1, d => match d with
    | .non | .bl _ | .int _ => True
    | .str x => PyData.strOk x = true
    | .lst ds | .tup ds => ds.length ≤ 100000 ∧ ∀ d ∈ ds, Exa n d
    | _ => False
@[simp] theorem eqD_nilF : eqD false (.lst []) (.lst []) = some (.bl true) := by rfl
@[simp] theorem eqD_bls (a b : Bool) : eqD true (.bl a) (.bl b) = some (.bl (a != b)) := by
  cases a <;> cases b <;> rfl
theorem isB_b (a b : Bool) : dIsB (.bl a) (.bl b) = some (.bl (a == b)) := by cases a <;> cases b <;> rfl
theorem exact_self : ∀ (n : Nat) (d : D), Exa n d → F__law_exact n [d, d] = .ok (.bl true) [none, none, none]
  | 0, d, h => h.elim
  | n + 1, d, h => by
    have ih := exact_self n
    have go : ∀ (ds : List D) (mk : List D → D), (mk = D.lst ∨ mk = D.tup) → ds.length ≤ 100000 → (∀ d ∈ ds, Exa n d) → F__law_exact (n + 1) [mk ds, mk ds] = .ok (.bl true) [none, none, none] := fun ds mk hm hl hd => by
      have c := comp_flt (g := gSet 2) (mt := (mNot (mCall (F__law_exact n) [0, 1] (mCons (mB dIx (mVar 0) (mVarS 2)) (mCons (mB dIx (mVar 1) (mVarS 2)) mNil))))) (me := mVarS 2) (vs := [2]) (en := [some (mk ds), some (mk ds), none]) (fun (i : Nat) => D.int (0 + (i : Int))) (fun _ => false) (fun _ => .non) (List.range ds.length) (by simp; omega) (fun i hi => by
        have hi := List.mem_range.mp hi
        obtain ⟨x, hx⟩ : ∃ x, ds[i]? = some x := ⟨_, List.getElem?_eq_getElem hi⟩
        have := ih x (hd x (List.mem_of_getElem? hx))
        rcases hm with rfl | rfl <;> simp [hx, this])
      have k1 : (ds.length : Int) ≤ 1000000 := by omega
      have k2 : -1000000 ≤ (ds.length : Int) := by omega
      have f : List.filter (fun (_ : Nat) => false) (List.range ds.length) = [] := by simp
      rw [f] at c
      unfold F__law_exact
      show runF 3 [none, none] (m__law_exact (F__law_exact n)) _ = _
      unfold m__law_exact
      generalize (mNot (mCall (F__law_exact n) _ _)) = mt at c ⊢
      rcases hm with rfl | rfl <;> simp [rngD, k1, k2] at c ⊢ <;> simp [c]
    cases d with
    | lst ds => exact go ds D.lst (.inl rfl) h.1 h.2
    | tup ds => exact go ds D.tup (.inr rfl) h.1 h.2
    | non => rfl
    | bl b => cases b <;> rfl
    | int i =>
      unfold F__law_exact m__law_exact
      simp
    | str x =>
      have e := eqD_self false (nz_str x h)
      unfold F__law_exact m__law_exact
      simp [e]
    | _ => exact h.elim
theorem side_bad {v : D} (h : v ∈ [D.non, .int (-1), .int 7, .bl true, .str "3", .lst [.int 3]]) : F_check_side [v] = .exc "InvalidNumber" v := by
  simp only [List.mem_cons, List.not_mem_nil, or_false] at h
  rcases h with rfl | rfl | rfl | rfl | rfl | rfl <;> rfl
theorem nzT {n w : Nat} {ds : List D} (h : ∀ d ∈ ds, Nz n w d) : Nz (n + 1) (ds.length * (w + 1)) (.tup ds) := nz_tup (nzl_all h)
theorem nzLs {n w : Nat} {ds : List D} (h : ∀ d ∈ ds, Nz n w d) : Nz (n + 1) (ds.length * (w + 1)) (.lst ds) := nz_lst (nzl_all h)
theorem side_nz {v : D} (h : v ∈ [D.non, .int (-1), .int 7, .bl true, .str "3", .lst [.int 3]]) : Nz 3 1000 v := by
  simp only [List.mem_cons, List.not_mem_nil, or_false] at h
  rcases h with rfl | rfl | rfl | rfl | rfl | rfl
  · exact nz_non.mono (by decide) (by decide)
  · exact (nz_int _).mono (by decide) (by decide)
  · exact (nz_int _).mono (by decide) (by decide)
  · exact (nz_bl _).mono (by decide) (by decide)
  · exact (nz_str _ (by decide +kernel)).mono (by decide) (by decide +kernel)
  · exact (nz_lst (nzl_cons (nz_int _) nzl_nil)).mono (by decide) (by decide)
def BadW (w : D) : Prop := F_check_from [w] = .exc "InvalidWay" w ∧ Nz 3 1000 w
def ru (c : Nat) : Bool := decide (c ∈ ("RU" : Str).cps.toList)
theorem in_RU' (c : Nat) : dInS false (.str ⟨#[c]⟩) (.str "RU") = some (.bl (ru c)) := by
  show some (D.bl (!(Builtin.Str.occurrences "RU" ⟨#[c]⟩ 0 _ 1).isEmpty)) = _
  rw [PySem.StrLaws.found_one]; rfl
theorem bls_of (p : Nat → Bool) : ∀ l : List Nat, blsD (l.map fun c => D.bl (p c)) = some (l.map p)
  | [] => rfl
  | c :: l => by simp [blsD, bls_of p l]
theorem is_str_i (x : Str) : dIsI "str" (.str x) = some (.bl true) := rfl
theorem ne_way : eqD true (.str "way") (.str "way") = some (.bl false) := eqS _ (by decide +kernel)
theorem sign_bad (z : Str) (hl : z.length ≤ 1000) (h : ∃ c ∈ z.cps.toList, ru c = false) : ∃ ios, F_is_way_by [.tup [.str "way", pt 0 0, .str z]] = .ok (.bl false) ios := by
  have ll : z.cps.toList.length = z.length := by simp [Str.length]
  have c := comp_map (g := gSet 1) (mt := mC (.bl true)) (me := (mB (dInS false) (mVarS 1) (mC (.str "RU")))) (vs := [1]) (en := [some (.tup [.str "way", pt 0 0, .str z]), none]) (fun c => D.str ⟨#[c]⟩) (fun c => .bl (ru c)) z.cps.toList (by rw [ll]; simp; omega) (fun x _ => by simp only [cStep, gSet, x_mC, x_mB, x_mm2, List.set, x_mVarS, List.getElem?_cons_succ, List.getElem?_cons_zero, y_scD_str, if_true, in_RU', y_killC, y_killN])
  have e : chars z = z.cps.toList.map fun c => D.str ⟨#[c]⟩ := rfl
  have b : dAll (.lst (z.cps.toList.map fun c => D.bl (ru c))) = some (.bl false) := by
    obtain ⟨d, hd, hn⟩ := h
    show (blsD _).map _ = _
    rw [bls_of ru]
    simp only [Option.map_some]
    congr 2
    rw [Bool.eq_false_iff]
    intro z
    rw [List.all_eq_true] at z
    have := z _ (List.mem_map.mpr ⟨d, hd, rfl⟩)
    rw [hn] at this
    cases this
  unfold F_is_way_by runF m_is_way_by
  generalize (mB (dInS false) (mVarS 1) (mC (.str "RU"))) = me at c ⊢
  have q3 : eqD true (.int 3) (.int 3) = some (.bl false) := by rfl
  have hz : z.length ≤ 1000000 := by omega
  by_cases h12 : (12 : Int) < z.length
  · simp [ne_way, q3, hz, h12]
  · simp [ne_way, q3, hz, h12, e, c, b]
theorem from_bad {w : D} (h : ∃ ios, F_is_way_by [w] = .ok (.bl false) ios) : F_check_from [w] = .exc "InvalidWay" w := by
  obtain ⟨ios, h⟩ := h
  unfold F_check_from m_check_from
  simp [h]
theorem len_app (x y : Str) : (x ++ y).length = x.length + y.length := by
  show (x.cps ++ y.cps).size = _
  simp [Str.length]
theorem more_bad (l : List Bool) (hl : l.length ≤ 12) (c : Nat) (hc : ru c = false) (hs : c < 0x110000) : BadW (.tup [.str "way", pt 0 0, .str (Wd l ++ ⟨#[c]⟩)]) := by
  have e : (Wd l ++ (⟨#[c]⟩ : Str)).length = l.length + 1 := by rw [len_app, len_W]; rfl
  refine ⟨from_bad (sign_bad _ (by omega) ⟨c, ?_, hc⟩), ?_⟩
  · show c ∈ ((Wd l).cps ++ #[c]).toList
    simp
  · refine Nz.mono (nz_tup (nzl_cons (nz_str _ (by decide +kernel)) (nzl_cons (nz_tup (nzl_cons (nz_int 0) (nzl_cons (nz_int 0) nzl_nil))) (nzl_cons (nz_str _ ?_) nzl_nil)))) (by decide) ?_
    · rw [sOk_iff]
      exact sOk_app ((sOk_iff _).mp (strOk_W l)) (by intro d hd; simp at hd; omega)
    · rw [e]
      have : ("way" : Str).length = 3 := rfl
      omega
def odds (l : List Bool) : List D :=
  [.non, .tup [], .lst [.str "way", pt 0 0, .str (Wd l)], .tup [.str "Way", pt 0 0, .str (Wd l)], .tup [.str "way", pt 0 0], .tup [.str "way", pt 0 0, .str (Wd l), .int 1], .tup [.str "way", .lst [.int 0, .int 0], .str (Wd l)], .tup [.str "way", pt 0 0, .lst (chars (Wd l))],
   .tup [.str "way", pt 0 0, .str (Wd l ++ ("x" : Str))], .tup [.str "way", pt 0 0, .str (Wd l ++ ("r" : Str))], .tup [.str "way", pt 0 0, .str (Txt.mul "R" 13)], .tup [.str "way", pt 12 0, .str "R"], .tup [.str "way", pt 0 12, .str "U"],
   .tup [.str "way", pt (-1) 0, .str ""], .tup [.str "way", pt 0 0, .non], .tup [.non, pt 0 0, .str (Wd l)],
   .tup [.str "way", pt 13 0, .str ""], .tup [.str "way", .tup [.bl true, .int 0], .str ""], .tup [.str "way", pt 0 0, .str (Wd l ++ (" " : Str))], .str "RU"]
theorem bad_way_ok {k : Int} {g : D} (l : List Bool) (hl : l.length ≤ 12) (h : Gn k g) (hk : k < 1000000) : ∃ x g', F__law_bad_way [g, wy l] = .ok x [some g', none, none, none, none, none] ∧ x ∈ odds l ∧ Gn (k + 1) g' := by
  obtain ⟨x, g', e, hx, G'⟩ := pick_ok (xs := odds l) h hk (by simp [odds]) (by simp [odds]) (by rw [show (odds l).length = 20 from rfl]; decide +kernel)
  refine ⟨x, g', ?_, hx, G'⟩
  have lw := len_W l
  have k1 : (Wd l).length + ("x" : Str).length ≤ lim := by rw [lw]; show l.length + 1 ≤ 1000000; omega
  have k2 : (Wd l).length + ("r" : Str).length ≤ lim := by rw [lw]; show l.length + 1 ≤ 1000000; omega
  have k3 : (Wd l).length + (" " : Str).length ≤ lim := by rw [lw]; show l.length + 1 ≤ 1000000; omega
  have k4 : (Wd l).length ≤ lim := by rw [lw]; show l.length ≤ 1000000; omega
  simp only [odds, pt] at e
  unfold F__law_bad_way m__law_bad_way
  simp [k1, k2, k3, k4, len_R, pt, e]
def okB (b : Bool) : FRes → Bool
  | .ok (.bl c) _ => c == b
  | _ => false
theorem okB_of {b : Bool} {r : FRes} (h : okB b r = true) : ∃ ios, r = .ok (.bl b) ios := by
  unfold okB at h
  split at h
  · rw [beq_iff_eq] at h; subst h; exact ⟨_, rfl⟩
  · cases h
def oB (b : Bool) : Option D → Bool
  | some (.bl c) => c == b
  | _ => false
theorem oB_of {b : Bool} {r : Option D} (h : oB b r = true) : r = some (.bl b) := by
  unfold oB at h
  split at h
  · rw [beq_iff_eq] at h; subst h; rfl
  · cases h
theorem nz_W (l : List Bool) (hl : l.length ≤ 12) : Nz 0 12 (.str (Wd l)) := (nz_str _ (strOk_W l)).mono (by decide) (by rw [len_W]; exact hl)
theorem nz_S (x : Str) (h : PyData.strOk x = true) (hl : x.length ≤ 13 := by decide +kernel) : Nz 0 13 (.str x) := (nz_str _ h).mono (by decide) hl
theorem nz_pt (i j : Int) (hi : i.natAbs < 1000 := by decide) (hj : j.natAbs < 1000 := by decide) : Nz 1 82 (pt i j) := (nz_tup (nzl_cons (nz_int i) (nzl_cons (nz_int j) nzl_nil))).mono (by decide) (by decide)
theorem nz_t {ds : List D} (h : ∀ d ∈ ds, Nz 2 200 d) (hl : ds.length ≤ 4) : Nz 3 1000 (.tup ds) := (nzT h).mono (by decide) (by have := Nat.mul_le_mul_right 201 hl; omega)
theorem nz_l {ds : List D} (h : ∀ d ∈ ds, Nz 2 200 d) (hl : ds.length ≤ 4) : Nz 3 1000 (.lst ds) := (nzLs h).mono (by decide) (by have := Nat.mul_le_mul_right 201 hl; omega)
theorem nz_chars (l : List Bool) (hl : l.length ≤ 12) : Nz 2 200 (.lst (chars (Wd l))) := by
  rw [chars_W]
  refine (nzLs (n := 0) (w := 1) fun d hd => ?_).mono (by decide) (by simp; omega)
  obtain ⟨b, _, rfl⟩ := List.mem_map.mp hd
  cases b <;> exact (nz_str _ (by decide +kernel)).mono (by decide) (by decide +kernel)
theorem odds_bad (l : List Bool) (hl : l.length ≤ 12) : ∀ w ∈ odds l, BadW w := by
  have w2 : Nz 2 200 (.str (Wd l)) := (nz_W l hl).mono (by decide) (by decide)
  have s2 : ∀ x : Str, PyData.strOk x = true → x.length ≤ 13 → Nz 2 200 (.str x) := fun x h h2 => (nz_S x h h2).mono (by decide) (by decide)
  have p2 : ∀ i j : Int, i.natAbs < 1000 → j.natAbs < 1000 → Nz 2 200 (pt i j) := fun i j h h' => (nz_pt i j h h').mono (by decide) (by decide)
  intro w hw
  simp only [odds, List.mem_cons, List.not_mem_nil, or_false] at hw
  have k4 : (Wd l).length ≤ lim := by rw [len_W]; show l.length ≤ 1000000; omega
  have tail : ∀ {x : D} {xs : List D} {n w : Nat}, Nz n w x → (∀ d ∈ xs, Nz n w d) → ∀ d ∈ x :: xs, Nz n w d := fun h h' d hd => by
    rcases List.mem_cons.mp hd with rfl | hd
    · exact h
    · exact h' d hd
  have no : ∀ {n w : Nat}, ∀ d ∈ ([] : List D), Nz n w d := fun d hd => nomatch hd
  rcases hw with rfl | rfl | rfl | rfl | rfl | rfl | rfl | rfl | rfl | rfl | rfl | rfl | rfl | rfl | rfl | rfl | rfl | rfl | rfl | rfl
  · exact ⟨rfl, nz_non.mono (by decide) (by decide)⟩
  · exact ⟨rfl, nz_t no (by simp)⟩
  · refine ⟨from_bad ⟨_, rfl⟩, nz_l (tail (s2 _ (by decide +kernel) (by decide +kernel)) (tail (p2 _ _ (by decide) (by decide)) (tail w2 no))) (by simp)⟩
  · refine ⟨from_bad ⟨[none, none], ?_⟩, nz_t (tail (s2 _ (by decide +kernel) (by decide +kernel)) (tail (p2 _ _ (by decide) (by decide)) (tail w2 no))) (by simp)⟩
    · have q3 : eqD true (.int 3) (.int 3) = some (.bl false) := by rfl
      have qw : eqD true (.str "Way") (.str "way") = some (.bl true) := oB_of (by decide +kernel)
      unfold F_is_way_by m_is_way_by
      simp [q3, qw]
  · exact ⟨from_bad ⟨_, rfl⟩, nz_t (tail (s2 _ (by decide +kernel) (by decide +kernel)) (tail (p2 _ _ (by decide) (by decide)) no)) (by simp)⟩
  · exact ⟨from_bad ⟨_, rfl⟩, nz_t (tail (s2 _ (by decide +kernel) (by decide +kernel)) (tail (p2 _ _ (by decide) (by decide)) (tail w2 (tail ((nz_int 1).mono (by decide) (by decide)) no)))) (by simp)⟩
  · refine ⟨from_bad ⟨[none, none], ?_⟩, nz_t (tail (s2 _ (by decide +kernel) (by decide +kernel)) (tail ((nz_lst (nzl_cons (nz_int 0) (nzl_cons (nz_int 0) nzl_nil))).mono (by decide) (by decide)) (tail w2 no))) (by simp)⟩
    have q : F_is_place [.lst [.int 0, .int 0]] = .ok (.bl false) [none] := by rfl
    have q3 : eqD true (.int 3) (.int 3) = some (.bl false) := by rfl
    unfold F_is_way_by m_is_way_by
    simp [q3, ne_way, q]
  · refine ⟨from_bad ⟨[none, none], ?_⟩, nz_t (tail (s2 _ (by decide +kernel) (by decide +kernel)) (tail (p2 _ _ (by decide) (by decide)) (tail (nz_chars l hl) no))) (by simp)⟩
    have q3 : eqD true (.int 3) (.int 3) = some (.bl false) := by rfl
    unfold F_is_way_by m_is_way_by
    simp [q3, ne_way]
  · exact more_bad l hl 120 (by decide +kernel) (by decide)
  · exact more_bad l hl 114 (by decide +kernel) (by decide)
  · refine ⟨from_bad ⟨[none, none], ?_⟩, nz_t (tail (s2 _ (by decide +kernel) (by decide +kernel)) (tail (p2 _ _ (by decide) (by decide)) (tail (s2 _ (by decide +kernel) (by decide +kernel)) no))) (by simp)⟩
    have q3 : eqD true (.int 3) (.int 3) = some (.bl false) := by rfl
    have ql : (Txt.mul "R" 13).length = 13 := by decide +kernel
    unfold F_is_way_by m_is_way_by
    simp [q3, ne_way, ql]
  · exact ⟨from_bad (okB_of (by decide +kernel)), nz_t (tail (s2 _ (by decide +kernel) (by decide +kernel)) (tail (p2 _ _ (by decide) (by decide)) (tail (s2 _ (by decide +kernel) (by decide +kernel)) no))) (by simp)⟩
  · exact ⟨from_bad (okB_of (by decide +kernel)), nz_t (tail (s2 _ (by decide +kernel) (by decide +kernel)) (tail (p2 _ _ (by decide) (by decide)) (tail (s2 _ (by decide +kernel) (by decide +kernel)) no))) (by simp)⟩
  · exact ⟨from_bad (okB_of (by decide +kernel)), nz_t (tail (s2 _ (by decide +kernel) (by decide +kernel)) (tail (p2 _ _ (by decide) (by decide)) (tail (s2 _ (by decide +kernel) (by decide +kernel)) no))) (by simp)⟩
  · exact ⟨from_bad (okB_of (by decide +kernel)), nz_t (tail (s2 _ (by decide +kernel) (by decide +kernel)) (tail (p2 _ _ (by decide) (by decide)) (tail (nz_non.mono (by decide) (by decide)) no))) (by simp)⟩
  · exact ⟨from_bad ⟨_, rfl⟩, nz_t (tail (nz_non.mono (by decide) (by decide)) (tail (p2 _ _ (by decide) (by decide)) (tail w2 no))) (by simp)⟩
  · exact ⟨from_bad (okB_of (by decide +kernel)), nz_t (tail (s2 _ (by decide +kernel) (by decide +kernel)) (tail (p2 _ _ (by decide) (by decide)) (tail (s2 _ (by decide +kernel) (by decide +kernel)) no))) (by simp)⟩
  · exact ⟨from_bad (okB_of (by decide +kernel)), nz_t (tail (s2 _ (by decide +kernel) (by decide +kernel)) (tail ((nz_tup (nzl_cons (nz_bl _) (nzl_cons (nz_int 0) nzl_nil))).mono (by decide) (by decide)) (tail (s2 _ (by decide +kernel) (by decide +kernel)) no))) (by simp)⟩
  · exact more_bad l hl 32 (by decide +kernel) (by decide)
  · exact ⟨rfl, (nz_S _ (by decide +kernel)).mono (by decide) (by decide)⟩
theorem bad10 : BadW (.tup [.str "way", pt 1 0, .str "R"]) := ⟨by
  obtain ⟨ios, e⟩ := okB_of (b := true) (r := F_is_way_by [.tup [.str "way", pt 1 0, .str "R"]]) (by decide +kernel)
  have q : eqD true (pt 1 0) (.tup [.int 0, .int 0]) = some (.bl true) := oB_of (by decide +kernel)
  unfold F_check_from m_check_from
  simp [e, q], (nz_tup (nzl_cons (nz_S _ (by decide +kernel)) (nzl_cons (nz_pt 1 0) (nzl_cons (nz_S _ (by decide +kernel)) nzl_nil)))).mono (by decide) (by decide)⟩
theorem bad01 : BadW (.tup [.str "way", pt 0 1, .str ""]) := ⟨by
  obtain ⟨ios, e⟩ := okB_of (b := true) (r := F_is_way_by [.tup [.str "way", pt 0 1, .str ""]]) (by decide +kernel)
  have q : eqD true (pt 0 1) (.tup [.int 0, .int 0]) = some (.bl true) := oB_of (by decide +kernel)
  unfold F_check_from m_check_from
  simp [e, q], (nz_tup (nzl_cons (nz_S _ (by decide +kernel)) (nzl_cons (nz_pt 0 1) (nzl_cons (nz_S _ (by decide +kernel)) nzl_nil)))).mono (by decide) (by decide)⟩
end Im
namespace Im
open PySem PySem.Spec PyProof.Rows L2
/-! ### boxes -/
/-- f found so far, at the height h -/
def bx (f h : Nat) : List Bool → Nat
  | [] => f
  | b :: l => bx (f + (if b then h else 0)) (h + (if b then 0 else 1)) l
def bx3 (e : Option D) : List Bool → Option D
  | [] => e
  | b :: l => bx3 (some (.str (sg1 b))) l
/-- the same in whole numbers -/
def bxI (f h : Int) : List Bool → Int
  | [] => f
  | b :: l => bxI (f + h * (if b then 1 else 0)) (h + (if b then 0 else 1)) l
def bxJ (h : Int) : List Bool → Int
  | [] => h
  | b :: l => bxJ (h + (if b then 0 else 1)) l
theorem bxI_eq : ∀ (l : List Bool) (f h : Nat), bxI (f : Nat) (h : Nat) l = (bx f h l : Nat)
  | [], f, h => rfl
  | true :: l, f, h => by
    have ih := bxI_eq l (f + h) (h + 0)
    simp only [bxI, bx, if_true, Int.mul_one, Int.add_zero, Nat.add_zero] at ih ⊢
    rw [← ih]; rfl
  | false :: l, f, h => by
    have ih := bxI_eq l (f + 0) (h + 1)
    simp only [bxI, bx, Bool.false_eq_true, if_false, Int.mul_zero, Int.add_zero, Nat.add_zero] at ih ⊢
    rw [← ih]; rfl
theorem bx_loop (w : Option D) : ∀ (l : List Bool) (f h : Int) (e3 : Option D),
    loopM (gSet 3) (mPar 1 2 (mCons (mB dAddX (mVarS 1) (mB dMulX (mVarS 2) (m1 dInt (mB (eqD false) (mVarS 3) (mC (.str "R")))))) (mCons (mB dAddX (mVarS 2) (m1 dInt (mB (eqD false) (mVarS 3) (mC (.str "U"))))) mNil))) (l.map fun b => .str (sg1 b)) [w, some (.int f), some (.int h), e3] =
      .nx [w, some (.int (bxI f h l)), some (.int (bxJ h l)), bx3 e3 l]
  | [], f, h, e3 => by simp [bxI, bxJ, bx3]
  | b :: l, f, h, e3 => by
    have ih := bx_loop w l (f + h * (if b then 1 else 0)) (h + (if b then 0 else 1)) (some (.str (sg1 b)))
    rw [List.map_cons, loop_cons]
    cases b <;> simp [bxI, bxJ, bx3] at ih ⊢ <;> simp [ih]
theorem bx0 (l : List Bool) : bxI 0 0 l = (bx 0 0 l : Nat) := bxI_eq l 0 0
theorem below_ok (l : List Bool) : ∃ ios, F__law_below [.str (Wd l)] = .ok (.int (bx 0 0 l : Nat)) ios := by
  have h := bx_loop (some (.str (Wd l))) l 0 0 none
  rw [bx0] at h
  generalize (bx 0 0 l : Nat) = q at h ⊢
  unfold F__law_below m__law_below
  generalize (mPar 1 2 _) = body at h ⊢
  simp [chars_W, h]
theorem by_ok (l : List Bool) : ∃ ios, F_boxes_by [.str (Wd l)] = .ok (.int (bx 0 0 l : Nat)) ios := by
  have h := bx_loop (some (.str (Wd l))) l 0 0 none
  rw [bx0] at h
  generalize (bx 0 0 l : Nat) = q at h ⊢
  unfold F_boxes_by m_boxes_by
  generalize (mPar 1 2 _) = body at h ⊢
  simp [chars_W, h]
theorem boxes_ok (l : List Bool) (h : l.length ≤ 12) : ∃ ios, F_boxes_below [.tup [.str "way", pt 0 0, .str (Wd l)]] = .ok (.int (bx 0 0 l : Nat)) ios := by
  obtain ⟨ios, e⟩ := by_ok l
  unfold F_boxes_below m_boxes_below
  simp [from_ok l h, e]
/-! ### counted -/
def cn (ws : List (List Bool)) (b : Nat) : Nat := (ws.filter fun w => bx 0 0 w == b).length
def cL (ws : List (List Bool)) (N : Nat) : List Nat := (List.range N).map (cn ws)
def dI (l : List Nat) : List D := l.map fun n => D.int (n : Nat)
theorem cn_snoc (ws : List (List Bool)) (w : List Bool) (b : Nat) : cn (ws ++ [w]) b = cn ws b + (if bx 0 0 w = b then 1 else 0) := by
  unfold cn
  rw [List.filter_append, List.length_append]
  by_cases h : bx 0 0 w = b <;> simp [h]
theorem cL_snoc (ws : List (List Bool)) (w : List Bool) (N : Nat) (h : bx 0 0 w < N) : dI (cL (ws ++ [w]) N) = (dI (cL ws N)).set (bx 0 0 w) (.int ((cn ws (bx 0 0 w) : Nat) + 1)) := by
  unfold dI cL
  apply List.ext_getElem
  · simp
  · intro i h1 h2
    rw [List.getElem_set]
    simp only [List.getElem_map, List.getElem_range]
    rw [cn_snoc]
    by_cases q : bx 0 0 w = i
    · subst q; simp
    · simp [q]
theorem cL_get (ws : List (List Bool)) (N n : Nat) (h : n < N) : (dI (cL ws N))[n]? = some (.int (cn ws n : Nat)) := by
  unfold dI cL
  simp [h]
theorem cL_len (ws : List (List Bool)) (N : Nat) : (dI (cL ws N)).length = N := by simp [dI, cL]
theorem count_loop (r u : Option D) (N : Nat) : ∀ (l ws : List (List Bool)) (e3 : Option D), (∀ w ∈ l, bx 0 0 w < N) → ∃ e3',
    loopM (gSet 3) (mAugC 2 (mCall F_boxes_by [0] (mCons (mVar 3) mNil)) 1) (l.map fun w => .str (Wd w)) [r, u, some (.lst (dI (cL ws N))), e3] = .nx [r, u, some (.lst (dI (cL (ws ++ l) N))), e3']
  | [], ws, e3, _ => ⟨e3, by simp⟩
  | w :: l, ws, e3, h => by
    have hw := h w List.mem_cons_self
    obtain ⟨ios, e⟩ := by_ok w
    obtain ⟨e3', ih⟩ := count_loop r u N l (ws ++ [w]) (some (.str (Wd w))) fun w hw => h w (List.mem_cons_of_mem _ hw)
    refine ⟨e3', ?_⟩
    rw [List.map_cons, loop_cons]
    have s : lStep (gSet 3) (mAugC 2 (mCall F_boxes_by [0] (mCons (mVar 3) mNil)) 1) (.str (Wd w)) [r, u, some (.lst (dI (cL ws N))), e3] = .nx [r, u, some (.lst (dI (cL (ws ++ [w]) N))), some (.str (Wd w))] := by
      rw [cL_snoc ws w N hw]
      have g := cL_get ws N _ hw
      have g2 := (List.getElem?_eq_some_iff.mp g).2
      generalize F_boxes_by = F at e ⊢
      simp [mAugC, e, cL_len, hw, g2]
    rw [s]
    dsimp only
    rw [ih]
    simp
/-- the law's words and the program's counted -/
def all7' (f : Nat → Bool) : Bool := all7 f
theorem bx_lt : all7 (fun r => all7 fun u => (wds r u).all fun w => decide (bx 0 0 w < r * u + 1)) = true := by decide +kernel
theorem bx_at {r u : Nat} (hr : r ≤ 6) (hu : u ≤ 6) : ∀ w ∈ wds r u, bx 0 0 w < r * u + 1 := fun w hw => by
  have := all7_at (all7_at bx_lt hr) hu
  rw [List.all_eq_true] at this
  exact of_decide_eq_true (this w hw)
def cW (r u : Nat) : List Nat := cL (wds r u) (r * u + 1)
theorem mul_le36 {r u : Nat} (hr : r ≤ 6) (hu : u ≤ 6) : r * u ≤ 36 := Nat.mul_le_mul hr hu
theorem cL_nil (N : Nat) : dI (cL [] N) = List.replicate N (.int 0) := by
  unfold dI cL cn
  rw [List.map_map]
  apply List.ext_getElem
  · simp
  · intro i h1 h2; simp
theorem flat_rep {α : Type} (x : α) : ∀ n, (List.replicate n [x]).flatten = List.replicate n x
  | 0 => rfl
  | n + 1 => by rw [List.replicate_succ, List.flatten_cons, flat_rep x n]; rfl
theorem ways_x (R U M : Int) (N : Nat) (fn : List D) (F F2 : List D → FRes) (body : SM) (ws : List D) (ios : En) (e3' : Option D) (hN : R * U + 1 = M) (hM : M.toNat = N) (k3 : -1000000 ≤ M) (k4 : M ≤ 1000000) (hz : N ≤ 1000000) (s1 : F2 [.int R] = .ok .non [none]) (s2 : F2 [.int U] = .ok .non [none]) (k1 : -18446744073709551616 < R) (k2 : R < 18446744073709551616)
    (e : F [.int R, .int U] = .ok (.lst ws) ios) (c : loopM (gSet 3) body ws [some (.int R), some (.int U), some (.lst (List.replicate N (.int 0))), none] = .nx [some (.int R), some (.int U), some (.lst fn), e3']) :
    ∃ ios, runF 4 [none, none] (mSeq (mDrop (mCall F2 [0] (mCons (mVar 0) mNil)))
  (mSeq (mDrop (mCall F2 [0] (mCons (mVar 1) mNil)))
  (mSeq (mSet 2 (mB dRep (mLst (mCons (mC (.int 0)) mNil)) (mB dAddX (mB dMulX (mVar 0) (mVar 1)) (mC (.int 1)))))
  (mSeq (mFor (mIt dItems (mCall F [0, 1] (mCons (mVar 0) (mCons (mVar 1) mNil)))) (gSet 3) body)
  (mRet [none, none] (mMove 2)))))) [.int R, .int U] = .ok (.lst fn) ios := by
  simp [s1, s2, k1, k2, hN, hM, k3, k4, hz, flat_rep, e, c]
theorem ways_ok (r u : Nat) (hr : r ≤ 6) (hu : u ≤ 6) : ∃ ios, F_ways_by_boxes [.int (r : Nat), .int (u : Nat)] = .ok (.lst (dI (cW r u))) ios := by
  obtain ⟨ios, e⟩ := own_words r u (by omega)
  have s1 := side_int (r : Nat) (by omega) (by omega)
  have s2 := side_int (u : Nat) (by omega) (by omega)
  have m36 := mul_le36 hr hu
  obtain ⟨e3', c⟩ := count_loop (some (.int (r : Nat))) (some (.int (u : Nat))) (r * u + 1) (wds r u) [] none (bx_at hr hu)
  rw [cL_nil, List.nil_append] at c
  have k1 : -18446744073709551616 < (r : Int) := by omega
  have k2 : (r : Int) < 18446744073709551616 := by omega
  exact ways_x (r : Nat) (u : Nat) ((r * u + 1 : Nat) : Int) (r * u + 1) (dI (cW r u)) F_words_with F_check_side _ _ ios e3' (by push_cast; rfl) (by omega) (by omega) (by omega) (by omega) s1 s2 (by omega) (by omega) e c
end Im
namespace Im
open PySem PySem.Spec PyProof.Rows L2
/-! ### a list that is its own -/
theorem dI_pln : ∀ ns : List Nat, plnL (dI ns) = true
  | [] => rfl
  | n :: ns => by
    have := dI_pln ns
    simp only [dI, List.map_cons, plnL, pln, Bool.true_and] at this ⊢
    exact this
theorem dI_dep : ∀ ns : List Nat, ldepL (dI ns) = 0
  | [] => rfl
  | n :: ns => by
    have := dI_dep ns
    simp only [dI, List.map_cons, ldepL, ldep] at this ⊢
    rw [this]; rfl
theorem dI_tag : ∀ (ns : List Nat) (k : Nat), tagL k (dI ns) = dI ns
  | [], _ => rfl
  | n :: ns, k => by
    have := dI_tag ns (k + nls (.int (n : Nat)))
    simp only [dI, List.map_cons, tagL, tagD] at this ⊢
    rw [this]
theorem dI_noTag : ∀ ns : List Nat, noTagL (dI ns) = true
  | [] => rfl
  | n :: ns => by
    have := dI_noTag ns
    simp only [dI, List.map_cons, noTagL, noTag, Bool.true_and] at this ⊢
    exact this
theorem dI_ed (f : List D → List D) (k : Nat) : ∀ ns : List Nat, edL k f (dI ns) = dI ns
  | [] => rfl
  | n :: ns => by
    have := dI_ed f k ns
    simp only [dI, List.map_cons, edL, edAt] at this ⊢
    rw [this]
theorem edL_app (f : List D → List D) (k : Nat) : ∀ xs ys : List D, edL k f (xs ++ ys) = edL k f xs ++ edL k f ys
  | [], ys => rfl
  | x :: xs, ys => by
    have := edL_app f k xs ys
    simp only [List.cons_append, edL, this]
theorem allTL_app : ∀ xs ys : List D, allTL (xs ++ ys) = (allTL xs && allTL ys)
  | [], ys => by simp [allTL]
  | x :: xs, ys => by
    have := allTL_app xs ys
    simp only [List.cons_append, allTL, this, Bool.and_assoc]
theorem dI_allT : ∀ ns : List Nat, allTL (dI ns) = true
  | [] => rfl
  | n :: ns => by
    have := dI_allT ns
    simp only [dI, List.map_cons, allTL, allT, Bool.true_and] at this ⊢
    exact this
theorem ldepL_app : ∀ xs ys : List D, ldepL (xs ++ ys) = max (ldepL xs) (ldepL ys)
  | [], ys => by simp [ldepL]
  | x :: xs, ys => by
    have := ldepL_app xs ys
    simp only [List.cons_append, ldepL, this]
    omega
theorem allNL_app (f : List D → List D) (p : List D → Bool) (k : Nat) : ∀ xs ys : List D, allNL k f p (xs ++ ys) = (allNL k f p xs && allNL k f p ys)
  | [], ys => by simp [allNL]
  | x :: xs, ys => by
    have := allNL_app f p k xs ys
    simp only [List.cons_append, allNL, this, Bool.and_assoc]
theorem dI_allN (f : List D → List D) (p : List D → Bool) (k : Nat) : ∀ ns : List Nat, allNL k f p (dI ns) = true
  | [] => rfl
  | n :: ns => by
    have := dI_allN f p k ns
    simp only [dI, List.map_cons, allNL, allN, Bool.true_and] at this ⊢
    exact this
theorem lists_int (n : Nat) (i : Int) : F__law_lists (n + 1) [.int i] = .ok (.lst []) [none, none, none] := rfl
theorem lists_loop (n : Nat) (t : Option D) (acc : List D) (ha : acc.length ≤ 100) : ∀ (ns : List Nat) (e2 : Option D), ∃ e2',
    loopM (gSet 2) (mSet 1 (mB dCat (mSee 1) (mCall (F__law_lists (n + 1)) [0] (mCons (mVar 2) mNil)))) (dI ns) [t, some (.lst acc), e2] = .nx [t, some (.lst acc), e2']
  | [], e2 => ⟨e2, by simp [dI]⟩
  | m :: ns, e2 => by
    obtain ⟨e2', ih⟩ := lists_loop n t acc ha ns (some (.int (m : Nat)))
    refine ⟨e2', ?_⟩
    have ha : acc.length ≤ 1000000 := by omega
    have q := lists_int n (m : Nat)
    rw [show dI (m :: ns) = .int (m : Nat) :: dI ns from rfl, loop_cons]
    generalize (m : Int) = M at ih q ⊢
    generalize F__law_lists (n + 1) = F at ih q ⊢
    simp [q, ha]
    exact ih
theorem lists_tl (ns : List Nat) : ∃ ios, F__law_lists 8 [.tl 0 (dI ns)] = .ok (.lst [.clo 0 []]) ios := by
  obtain ⟨e2', h⟩ := lists_loop 6 (some (.tl 0 (dI ns))) [.clo 0 []] (by simp) ns none
  have i1 : dIsI "list" (.tl 0 (dI ns)) = some (.bl true) := rfl
  have i2 : dIsI2 "list" "tuple" (.tl 0 (dI ns)) = some (.bl true) := rfl
  have a1 : dAli (.tl 0 (dI ns)) = some (.clo 0 []) := rfl
  have a2 : dUnt (.tl 0 (dI ns)) = some (.lst (dI ns)) := rfl
  show ∃ ios, runF 3 [none] (m__law_lists (F__law_lists 7)) _ = _
  unfold m__law_lists
  generalize (mSet 1 (mB dCat _ _)) = body at h ⊢
  simp [i1, i2, a1, a2, h]
theorem nz_dI (ns : List Nat) (hn : ∀ n ∈ ns, n < 1000000) : ∀ d ∈ dI ns, Nz 0 40 d := fun d hd => by
  obtain ⟨n, h, rfl⟩ := List.mem_map.mp hd
  exact nz_int _ (by have := hn n h; omega)
theorem toPL_dI : ∀ ns : List Nat, toPL (dI ns) = some (ns.map fun n => PyData.int (n : Nat))
  | [] => rfl
  | n :: ns => by
    have := toPL_dI ns
    simp only [dI, List.map_cons, toPL, toP] at this ⊢
    rw [this]
theorem toPL_app : ∀ (xs ys : List D) (ps qs : List PyData), toPL xs = some ps → toPL ys = some qs → toPL (xs ++ ys) = some (ps ++ qs)
  | [], ys, ps, qs, h, h' => by cases h; simpa using h'
  | x :: xs, ys, ps, qs, h, h' => by
    simp only [toPL] at h
    split at h
    · rename_i a b e1 e2
      cases h
      have := toPL_app xs ys b qs e2 h'
      simp only [List.cons_append, toPL, e1, this]
    · cases h
theorem repr_tl (n : Nat) (ds : List D) : dRepr (.tl n ds) = dRepr (.lst ds) := rfl
theorem mark_shown (ns : List Nat) (hl : ns.length ≤ 100) (hn : ∀ n ∈ ns, n < 1000000) : ∃ s, dRepr (.tl 0 (dI ns ++ [.str "mark"])) = some (.str s) ∧ Txt.count s "'mark'" = 1 := by
  have nz : Nz 1 (101 * 41) (.lst (dI ns ++ [.str "mark"])) := by
    refine (nz_lst (nzl_all (n := 0) (w := 40) fun d hd => ?_)).mono (Nat.le_refl _) ?_
    · rcases List.mem_append.mp hd with hd | hd
      · exact nz_dI ns hn d hd
      · simp at hd; subst hd; exact (nz_str "mark" (by decide +kernel)).mono (by decide) (by decide +kernel)
    · have : (dI ns ++ [D.str "mark"]).length ≤ 101 := by simp [dI]; omega
      exact Nat.mul_le_mul_right 41 this
  obtain ⟨s, h, _, _⟩ := repr_nz nz
  refine ⟨s, by rw [repr_tl]; exact h, ?_⟩
  have e := toPL_app _ [.str "mark"] _ [.str "mark"] (toPL_dI ns) rfl
  have tp : toP (.lst (dI ns ++ [.str "mark"])) = some (.list ((ns.map fun n => PyData.int (n : Nat)) ++ [.str "mark"])) := by rw [toP, e]; rfl
  unfold dRepr at h
  rw [tp] at h
  dsimp only at h
  split at h
  · cases h
    refine count_one _ _ mark_cps (on_list _ _ [] (fun x hx => ?_) on_mark (fun _ h => nomatch h))
    obtain ⟨n, _, rfl⟩ := List.mem_map.mp hx
    exact fr_int _
  · cases h
end Im
namespace Im
open PySem PySem.Spec PyProof.Rows L2
def own_1 : SM := (mPar 3 4 (mCons (m1 dRepr (mVar 2)) (mCons (mFlat (mCall (F__law_lists 8) [0] (mCons (mVar 1) mNil))) mNil)))
def own_2b1 : SM := (mSet 6 (mB dIx (mVar 4) (mCallR F__law_random [0, 1] 0 0 (mCons (mMove 0) (mCons (m1 dLen (mVar 4)) mNil)))))
def own_2b2 : SM := (mDrop (mTApp 6 1 1 (.str "mark")))
def own_2b3 : SM := (mIfS (mOr (mB (eqD true) (mB dCount (mS (m1 dRepr (mVar 1))) (mC (.str "'mark'"))) (mC (.int 1))) (mB (eqD true) (m1 dRepr (mVar 2)) (mVarS 3))) (mRet [some 1, none, none] (mC (.bl false))) mPass)
def own_2b4 : SM := (mDrop (mTPop 6 1 1))
def own_2b : SM := (mSeq own_2b1 (mSeq own_2b2 (mSeq own_2b3 own_2b4)))
def own_2 : SM := (mFor (mRng1 (mB dMin (mC (.int 6)) (m1 dLen (mVar 4)))) (gSet 5) own_2b)
def own_3 : SM := (mRet [some 1, none, none] (mC (.bl true)))
theorem own_eq  : m__law_own = (mSeq own_1 (mSeq own_2 own_3)) := rfl
theorem repr_nil : ∃ s, dRepr (.lst []) = some (.str s) ∧ PyData.strOk s = true := by
  obtain ⟨s, h, h2, _⟩ := repr_nz (n := 1) (w := 0) (nz_lst nzl_nil)
  exact ⟨s, h, h2⟩
theorem own2b2 (ns : List Nat) (hl : ns.length ≤ 100) (e0 e2 e3 e4 e5 : Option D) :
    own_2b2 [e0, some (.tl 0 (dI ns)), e2, e3, e4, e5, some (.clo 0 [])] = .nx [e0, some (.tl 0 (dI ns ++ [.str "mark"])), e2, e3, e4, e5, some (.clo 0 [])] := by
  have a : allT (.tl 0 (dI ns)) = true := by simp only [allT]; exact dI_allT ns
  have b : ldep (.tl 0 (dI ns)) = 1 := by simp only [ldep, dI_dep]
  have c : fnd 0 (.tl 0 (dI ns)) = some (dI ns) := by simp [fnd]
  have d : edAt 0 (· ++ [D.str "mark"]) (.tl 0 (dI ns)) = .tl 0 (dI ns ++ [.str "mark"]) := by simp [edAt, dI_ed]
  have l : (dI ns).length < 1000000 := by simp [dI]; omega
  unfold own_2b2
  simp [mTApp, a, b, c, d, l]
theorem own2b4 (ns : List Nat) (hl : ns.length ≤ 100) (e0 e2 e3 e4 e5 : Option D) :
    own_2b4 [e0, some (.tl 0 (dI ns ++ [.str "mark"])), e2, e3, e4, e5, some (.clo 0 [])] = .nx [e0, some (.tl 0 (dI ns)), e2, e3, e4, e5, some (.clo 0 [])] := by
  have a : allT (.tl 0 (dI ns ++ [.str "mark"])) = true := by simp only [allT, allTL_app, dI_allT]; rfl
  have b : ldep (.tl 0 (dI ns ++ [.str "mark"])) = 1 := by simp only [ldep, ldepL_app, dI_dep]; rfl
  have c : fnd 0 (.tl 0 (dI ns ++ [.str "mark"])) = some (dI ns ++ [.str "mark"]) := by simp [fnd]
  have g : (dI ns ++ [D.str "mark"]).getLast? = some (.str "mark") := by simp
  have e : edL 0 List.dropLast (dI ns ++ [.str "mark"]) = dI ns ++ [.str "mark"] := by rw [edL_app, dI_ed]; rfl
  have d : edAt 0 List.dropLast (.tl 0 (dI ns ++ [.str "mark"])) = .tl 0 (dI ns) := by simp [edAt, e]
  have f : allN 0 List.dropLast lastS (.tl 0 (dI ns ++ [.str "mark"])) = true := by
    simp only [allN, e, allNL_app, dI_allN]
    have : lastS (dI ns ++ [D.str "mark"]) = true := by unfold lastS; rw [g]; rfl
    rw [this]; rfl
  unfold own_2b4
  simp [mTPop, a, b, c, d, f]
theorem own2b3 (e0 e4 e5 e6 : Option D) (t : D) (s k : Str) (ht : dRepr t = some (.str s)) (hc : Txt.count s "'mark'" = 1) (hk : dRepr (.lst []) = some (.str k)) (ko : PyData.strOk k = true) :
    own_2b3 [e0, some t, some (.lst []), some (.str k), e4, e5, e6] = .nx [e0, some t, some (.lst []), some (.str k), e4, e5, e6] := by
  have q := eqS k ko
  unfold own_2b3
  simp [ht, hc, hk, q]
theorem own_ok {k : Int} {g : D} (G : Gn k g) (hk : k < 100000) (ns : List Nat) (hl : ns.length ≤ 100) (hn : ∀ n ∈ ns, n < 1000000) : ∃ g', Gn (k + 1) g' ∧ F__law_own [g, .lst (dI ns), .lst []] = .ok (.bl true) [some g', none, none, none, none, none, none] := by
  obtain ⟨ios, L⟩ := lists_tl ns
  obtain ⟨r, g', e, r0, r1, G'⟩ := rnd_ok (n := 1) G (by omega) (by decide) (by decide) (by decide +kernel)
  obtain rfl : r = 0 := by omega
  obtain ⟨kp, hkp, ko⟩ := repr_nil
  obtain ⟨s, hs, hc⟩ := mark_shown ns hl hn
  refine ⟨g', G', ?_⟩
  have ng : noTag g = true := by obtain ⟨a, b, c, rfl, _⟩ := G; rfl
  have ng' : noTag g' = true := by obtain ⟨a, b, c, rfl, _⟩ := G'; rfl
  have b2 := own2b2 ns hl (some g') (some (.lst [])) (some (.str kp)) (some (.lst [.clo 0 []])) (some (.int 0))
  have b3 := own2b3 (some g') (some (.lst [.clo 0 []])) (some (.int 0)) (some (.clo 0 [])) (.tl 0 (dI ns ++ [.str "mark"])) s kp hs hc hkp ko
  have b4 := own2b4 ns hl (some g') (some (.lst [])) (some (.str kp)) (some (.lst [.clo 0 []])) (some (.int 0))
  have b1 : own_2b1 [some g, some (.tl 0 (dI ns)), some (.lst []), some (.str kp), some (.lst [.clo 0 []]), some (.int 0), none] = .nx [some g', some (.tl 0 (dI ns)), some (.lst []), some (.str kp), some (.lst [.clo 0 []]), some (.int 0), some (.clo 0 [])] := by
    unfold own_2b1
    generalize F__law_random = F at e ⊢
    simp [e]
  have o1 : own_1 [some g, some (.tl 0 (dI ns)), some (.lst []), none, none, none, none] = .nx [some g, some (.tl 0 (dI ns)), some (.lst []), some (.str kp), some (.lst [.clo 0 []]), none, none] := by
    unfold own_1
    generalize F__law_lists 8 = F at L ⊢
    simp [hkp, L, mFlat, flatD]
  have F : runF 7 [some 1, none, none] m__law_own [g, .tl 0 (dI ns), .lst []] = .ok (.bl true) [some g', none, none, none, none, none, none] := by
    rw [own_eq]
    unfold own_2 own_3 own_2b
    generalize own_1 = O1 at o1 ⊢
    generalize own_2b1 = B1 at b1 ⊢
    generalize own_2b2 = B2 at b2 ⊢
    generalize own_2b3 = B3 at b3 ⊢
    generalize own_2b4 = B4 at b4 ⊢
    simp [o1, rngD, loop_cons, b1, b2, b3, b4]
  have p : pln (.lst (dI ns)) = true := by simp only [pln]; exact dI_pln ns
  have dp : ldep (.lst (dI ns)) = 1 := by simp only [ldep, dI_dep]
  have tg : tagD 0 (.lst (dI ns)) = .tl 0 (dI ns) := by simp only [tagD, dI_tag]
  have n0 : noTag (.lst []) = true := rfl
  unfold F__law_own tagF
  simp only [ng, p, dp, n0, tg, F, ng', noTag, noTagL, noTagO, Bool.and_true, Nat.le_refl, decide_true, if_true]
/-! ### products -/
def gz (ns : List Int) (i : Nat) : Int := ns.getD i 0
def tms (ns : List Int) (p : Nat) : List Int := (List.range (ns.length + p)).map fun i => gz ns i - (if p ≤ i then gz ns (i - p) else 0)
def zI (l : List Int) : List D := l.map D.int
theorem tms_len (ns : List Int) (p : Nat) : (tms ns p).length = ns.length + p := by simp [tms]
theorem times_step (ns : List Int) (p i : Nat) (hp : p ≤ 1000) (hl : ns.length ≤ 1000) (hi : i < ns.length + p) (e2 : Option D) :
    cStep (mgTup 2 (gCons (gSet 3) (gCons (gSet 4) gNil))) (mC (.bl true)) (mB dSub (mVar 4) (mIf (mAnd (mB dGe (mVarS 3) (mVarS 1)) (mB dLt (mB dSub (mVarS 3) (mVarS 1)) (m1 dLen (mVar 0)))) (mB dIx (mVar 0) (mB dSub (mVarS 3) (mVarS 1))) (mC (.int 0)))) [3, 4]
      (.tup [.int (i : Nat), .int (gz ns i)]) [some (.lst (zI ns)), some (.int (p : Nat)), e2, none, none] = some (some (.int (gz ns i - (if p ≤ i then gz ns (i - p) else 0))), [some (.lst (zI ns)), some (.int (p : Nat)), e2, none, none]) := by
  generalize gz ns i = y
  have hlen : (zI ns).length = ns.length := by simp [zI]
  by_cases h : p ≤ i
  · obtain ⟨j, rfl⟩ : ∃ j, i = p + j := ⟨i - p, by omega⟩
    have hj : j < ns.length := by omega
    have g : atI (zI ns) (j : Nat) = some (.int (gz ns j)) := by
      rw [atI_nat]
      simp [zI, gz, List.getD_eq_getElem?_getD, hj]
    rw [if_pos (by omega), show p + j - p = j by omega]
    generalize gz ns j = z at g ⊢
    have q1 : ((p : Nat) : Int) ≤ ((p + j : Nat) : Int) := by omega
    have q2 : ((p + j : Nat) : Int) - ((p : Nat) : Int) = ((j : Nat) : Int) := by omega
    have q3 : ((j : Nat) : Int) < ((zI ns).length : Nat) := by omega
    generalize ((p + j : Nat) : Int) = I at q1 q2 ⊢
    generalize ((p : Nat) : Int) = P at q1 q2 ⊢
    generalize ((j : Nat) : Int) = J at q2 q3 g ⊢
    generalize zI ns = L at g q3 ⊢
    simp [q1, q2, q3, g]
  · rw [if_neg h]
    have q1 : ¬ ((p : Nat) : Int) ≤ ((i : Nat) : Int) := by omega
    generalize ((i : Nat) : Int) = I at q1 ⊢
    generalize ((p : Nat) : Int) = P at q1 ⊢
    generalize zI ns = L
    simp [q1]
theorem enum_get (ns : List Int) (p : Nat) : enumD (zI ns ++ List.replicate p (.int 0)) = (List.range (ns.length + p)).map fun i => D.tup [.int (i : Nat), .int (gz ns i)] := by
  unfold enumD
  apply List.ext_getElem
  · simp [zI]
  · intro i h1 h2
    simp only [List.getElem_mapIdx, List.getElem_map, List.getElem_range]
    congr 3
    by_cases h : i < ns.length
    · rw [List.getElem_append_left (by simpa [zI] using h)]
      simp [zI, gz, List.getD_eq_getElem?_getD, h]
    · rw [List.getElem_append_right (by simp [zI]; omega)]
      simp [gz, List.getD_eq_getElem?_getD]
      rw [List.getElem?_eq_none (by omega)]; rfl
theorem times_ok (ns : List Int) (p : Nat) (hp : p ≤ 1000) (hl : ns.length ≤ 1000) : ∃ ios, F__law_times [.lst (zI ns), .int (p : Nat)] = .ok (.lst (zI (tms ns p))) ios := by
  have c := comp_map (g := mgTup 2 (gCons (gSet 3) (gCons (gSet 4) gNil))) (mt := mC (.bl true)) (me := (mB dSub (mVar 4) (mIf (mAnd (mB dGe (mVarS 3) (mVarS 1)) (mB dLt (mB dSub (mVarS 3) (mVarS 1)) (m1 dLen (mVar 0)))) (mB dIx (mVar 0) (mB dSub (mVarS 3) (mVarS 1))) (mC (.int 0))))) (vs := [3, 4]) (en := [some (.lst (zI ns)), some (.int (p : Nat)), some (.lst (zI ns ++ List.replicate p (.int 0))), none, none])
    (fun i : Nat => D.tup [.int (i : Nat), .int (gz ns i)]) (fun i => .int (gz ns i - (if p ≤ i then gz ns (i - p) else 0))) (List.range (ns.length + p)) (by simp; omega) (fun i hi => times_step ns p i hp hl (List.mem_range.mp hi) _)
  rw [← enum_get] at c
  have e : (List.range (ns.length + p)).map (fun i => D.int (gz ns i - (if p ≤ i then gz ns (i - p) else 0))) = zI (tms ns p) := by simp [zI, tms]
  rw [e] at c
  have hlen : (zI ns).length = ns.length := by simp [zI]
  have k1 : -1000000 ≤ ((p : Nat) : Int) := by omega
  have k2 : ((p : Nat) : Int) ≤ 1000000 := by omega
  have k3 : ((p : Nat) : Int).toNat = p := by omega
  have k4 : p ≤ 1000000 := by omega
  have k5 : (zI ns).length + p ≤ 1000000 := by omega
  unfold F__law_times m__law_times
  generalize (mB dSub (mVar 4) _) = me at c ⊢
  generalize ((p : Nat) : Int) = P at c k1 k2 k3 ⊢
  generalize zI (tms ns p) = R at c ⊢
  generalize zI ns = L at c k5 ⊢
  simp [k1, k2, k3, k4, k5, flat_rep, c]
end Im
namespace Im
open PySem PySem.Spec PyProof.Rows L2
def law_1b1 : SM := (mSet 2 (mCall F__law_generator [0, 1] (mCons (mVar 0) (mCons (mVarS 1) mNil))))
def law_1b2 : SM := (mSet 3 (mB dJoin (mS (mC (.str ""))) (mLc (mRng1 (mCallR F__law_random [0, 1] 2 0 (mCons (mMove 2) (mCons (mC (.int 13)) mNil)))) (gSet 17) (mC (.bl true)) (mCallR F__law_pick [0, 1] 2 0 (mCons (mMove 2) (mCons (mLst (mCons (mC (.str "R")) (mCons (mC (.str "U")) mNil))) mNil))) [17])))
def law_1b3 : SM := (mAsg (mTup (mCons (mTup (mCons (mC (.str "way")) (mCons (mTup (mCons (mC (.int 0)) (mCons (mC (.int 0)) mNil))) (mCons (mVarS 3) mNil)))) (mCons (mCall F__law_below [0] (mCons (mVarS 3) mNil)) mNil))) (mgTup 2 (gCons (gSet 4) (gCons (gSet 5) gNil))))
def law_1b4 : SM := (mIfS (mNot (mCall (F__law_exact 8) [0, 1] (mCons (mLst (mCons (mVarS 5) (mCons (mVarS 5) mNil))) (mCons (mLst (mCons (mCall F_boxes_below [0] (mCons (mVar 4) mNil)) (mCons (mCall F_boxes_below [0] (mCons (mVar 4) mNil)) mNil))) mNil)))) (mRet [] (mC (.bl false))) mPass)
def law_1b5 : SM := (mPar 6 7 (mCons (mCallR F__law_random [0, 1] 2 0 (mCons (mMove 2) (mCons (mC (.int 7)) mNil))) (mCons (mCallR F__law_random [0, 1] 2 0 (mCons (mMove 2) (mCons (mC (.int 7)) mNil))) mNil)))
def law_1b6 : SM := (mSet 8 (mLc (mIt dItems (mCall F__law_words [0, 1] (mCons (mVarS 6) (mCons (mVarS 7) mNil)))) (gSet 15) (mC (.bl true)) (mCall F__law_below [0] (mCons (mVar 15) mNil)) [15]))
def law_1b7 : SM := (mSet 5 (mLc (mRng1 (mB dAddX (mB dMulX (mVarS 6) (mVarS 7)) (mC (.int 1)))) (gSet 16) (mC (.bl true)) (m1 dLen (mLc (mIt dItems (mVar 8)) (gSet 15) (mB (eqD false) (mVar 15) (mVarS 16)) (mVar 15) [15])) [16]))
def law_1b8 : SM := (mSet 9 (mCall F_ways_by_boxes [0, 1] (mCons (mVarS 6) (mCons (mVarS 7) mNil))))
def law_1b9 : SM := (mIfS (mOr (mNot (mCall (F__law_exact 8) [0, 1] (mCons (mLst (mCons (mVar 5) (mCons (mVar 5) (mCons (mVar 5) (mCons (m1 dRev (mVar 5)) mNil))))) (mCons (mLst (mCons (mVar 9) (mCons (mCall F_ways_by_boxes [1, 0] (mCons (mVarS 7) (mCons (mVarS 6) mNil))) (mCons (mCall F_ways_by_boxes [0, 1] (mCons (mVarS 7) (mCons (mVarS 6) mNil))) (mCons (mVar 5) mNil))))) mNil)))) (mNot (mCallR F__law_own [0, 1, 2] 2 0 (mCons (mMove 2) (mCons (mMove 9) (mCons (mLst mNil) mNil)))))) (mRet [] (mC (.bl false))) mPass)
def law_1b10 : SM := (mIfS (mOr (mB (eqD true) (m1 dSum (mVar 5)) (mCall F__law_chosen [0, 1] (mCons (mB dAddX (mVarS 6) (mVarS 7)) (mCons (mVarS 7) mNil)))) (mB (eqD true) (mLc (mRng2 (mC (.int 1)) (mB dAddX (mB dDiv (m1 dLen (mVar 5)) (mC (.int 2))) (mC (.int 1)))) (gSet 19) (mB dLt (mB dIx (mVar 5) (mVarS 19)) (mB dIx (mVar 5) (mB dSub (mVarS 19) (mC (.int 1))))) (mVarS 19) [19]) (mLst mNil))) (mRet [] (mC (.bl false))) mPass)
def law_1b11 : SM := (mPar 10 11 (mCons (mVar 5) (mCons (mLst (mCons (mC (.int 1)) mNil)) mNil)))
def law_1b12b : SM := (mPar 10 11 (mCons (mCall F__law_times [0, 1] (mCons (mVar 10) (mCons (mVarS 12) mNil))) (mCons (mCall F__law_times [0, 1] (mCons (mVar 11) (mCons (mB dAddX (mVarS 6) (mVarS 12)) mNil))) mNil)))
def law_1b12 : SM := (mFor (mRng2 (mC (.int 1)) (mB dAddX (mVarS 7) (mC (.int 1)))) (gSet 12) law_1b12b)
def law_1b13 : SM := (mIfS (mB (eqD true) (mVar 10) (mVar 11)) (mRet [] (mC (.bl false))) mPass)
def law_1b14 : SM := (mSet 13 (mLst mNil))
def law_1b15b : SM := (mSet 13 (mB dCat (mSee 13) (mLst (mCons (mTup (mCons (mC (.int 1)) (mCons (mTup (mCons (mVar 14) (mCons (mC (.str "z")) mNil))) (mCons (mLst (mCons (mC (.bl false)) (mCons (mC (.bl true)) (mCons (mVar 14) mNil)))) mNil)))) (mCons (mTup (mCons (mC (.int 1)) (mCons (mTup (mCons (mVar 14) (mCons (mVarS 7) mNil))) (mCons (mLst (mCons (mC (.bl false)) (mCons (mC (.bl true)) (mCons (mVar 14) mNil)))) mNil)))) (mCons (mTup (mCons (mC (.int 1)) (mCons (mTup (mCons (mVarS 6) (mCons (mVar 14) mNil))) (mCons (mLst (mCons (mC (.bl false)) (mCons (mC (.bl true)) (mCons (mVar 14) mNil)))) mNil)))) mNil))))))
def law_1b15 : SM := (mFor (mIt dItems (mLst (mCons (mC .non) (mCons (mB dSub (mC (.int 0)) (mC (.int 1))) (mCons (mC (.int 7)) (mCons (mC (.bl true)) (mCons (mC (.str "3")) (mCons (mLst (mCons (mC (.int 3)) mNil)) mNil)))))))) (gSet 14) law_1b15b)
def law_1b16b : SM := (mDrop (mAppend 13 (mTup (mCons (mC (.int 0)) (mCons (mTup (mCons (mVar 14) mNil)) (mCons (mLst (mCons (mC (.bl true)) (mCons (mC (.bl false)) (mCons (mVar 14) mNil)))) mNil))))))
def law_1b16 : SM := (mFor (mIt dItems (mLst (mCons (mCallR F__law_bad_way [0, 1] 2 0 (mCons (mMove 2) (mCons (mVar 4) mNil))) (mCons (mCallR F__law_bad_way [0, 1] 2 0 (mCons (mMove 2) (mCons (mVar 4) mNil))) (mCons (mTup (mCons (mC (.str "way")) (mCons (mTup (mCons (mC (.int 1)) (mCons (mC (.int 0)) mNil))) (mCons (mC (.str "R")) mNil)))) (mCons (mTup (mCons (mC (.str "way")) (mCons (mTup (mCons (mC (.int 0)) (mCons (mC (.int 1)) mNil))) (mCons (mC (.str "")) mNil)))) mNil)))))) (gSet 14) law_1b16b)
def law_1b17 : SM := (mIfS (mB (eqD true) (mLc (mIt dItems (mSee 13)) (gSet 18) (mB (eqD true) (mCall F__law_caught [0, 1] (mCons (mB dIx (mVar 18) (mC (.int 0))) (mCons (mB dIx (mVar 18) (mC (.int 1))) mNil))) (m1 dRepr (mB dIx (mVar 18) (mC (.int 2))))) (mVar 18) [18]) (mLst mNil)) (mRet [] (mC (.bl false))) mPass)
def law_1b : SM := (mSeq law_1b1 (mSeq law_1b2 (mSeq law_1b3 (mSeq law_1b4 (mSeq law_1b5 (mSeq law_1b6 (mSeq law_1b7 (mSeq law_1b8 (mSeq law_1b9 (mSeq law_1b10 (mSeq law_1b11 (mSeq law_1b12 (mSeq law_1b13 (mSeq law_1b14 (mSeq law_1b15 (mSeq law_1b16 law_1b17))))))))))))))))
def law_1 : SM := (mFor (mRng1 (mC (.int 4))) (gSet 1) law_1b)
def law_2 : SM := (mRet [] (mAnd (mB (eqD false) (mB dIx (mCall F_ways_by_boxes [0, 1] (mCons (mC (.int 6)) (mCons (mC (.int 6)) mNil))) (mC (.int 18))) (mC (.int 58))) (mB (eqD false) (m1 dSum (mCall F_ways_by_boxes [0, 1] (mCons (mC (.int 6)) (mCons (mC (.int 6)) mNil)))) (mC (.int 924)))))
theorem law_eq  : m_law = (mSeq law_1 law_2) := rfl
/-! ### numbers known -/
def mulA (r : Nat) : Nat → List Int × List Int → List Int × List Int
  | 0, s => s
  | n + 1, s => let t := mulA r n s; (tms t.1 (n + 1), tms t.2 (r + (n + 1)))
def toI (l : List Nat) : List Int := l.map fun (n : Nat) => (n : Int)
def chk (r u : Nat) : Bool :=
  let c := cW r u
  c.reverse == c && cW u r == c && ((toI c).sum == chs (r + u : Nat) u) && ((List.range (c.length / 2)).all fun i => decide (c.getD i 0 ≤ c.getD (i + 1) 0)) && c.all (fun n => decide (n < 1000000)) &&
    (let t := mulA r u (toI c, [1]); t.1 == t.2 && t.1.all (fun i => decide (i.natAbs < 1000000)) && decide (t.1.length < 1000))
theorem chk_all : all7 (fun r => all7 fun u => chk r u) = true := by decide +kernel
theorem chk_at {r u : Nat} (hr : r ≤ 6) (hu : u ≤ 6) : chk r u = true := all7_at (all7_at chk_all hr) hu
theorem last58 : (cW 6 6).getD 18 0 = 58 ∧ (toI (cW 6 6)).sum = 924 := by decide +kernel
structure Chk (r u : Nat) : Prop where
  rev : (cW r u).reverse = cW r u
  swp : cW u r = cW r u
  sum : (toI (cW r u)).sum = chs (r + u : Nat) u
  ris : ∀ i, i < (cW r u).length / 2 → (cW r u).getD i 0 ≤ (cW r u).getD (i + 1) 0
  sml : ∀ n ∈ cW r u, n < 1000000
  mul : (mulA r u (toI (cW r u), [1])).1 = (mulA r u (toI (cW r u), [1])).2
  mls : ∀ i ∈ (mulA r u (toI (cW r u), [1])).1, i.natAbs < 1000000
  mll : (mulA r u (toI (cW r u), [1])).1.length < 1000
theorem chk_of {r u : Nat} (hr : r ≤ 6) (hu : u ≤ 6) : Chk r u := by
  have h := chk_at hr hu
  unfold chk at h
  simp only [Bool.and_eq_true, beq_iff_eq, List.all_eq_true, decide_eq_true_eq, List.mem_range] at h
  obtain ⟨⟨⟨⟨⟨h1, h2⟩, h3⟩, h4⟩, h5⟩, ⟨h6, h7⟩, h8⟩ := h
  exact ⟨h1, h2, h3, h4, h5, h6, h7, h8⟩
theorem cW_len (r u : Nat) : (cW r u).length = r * u + 1 := by simp [cW, cL]
theorem dI_toI (l : List Nat) : dI l = zI (toI l) := by simp [dI, zI, toI]
theorem sum_zI (l : List Int) : dSum (.lst (zI l)) = some (.int l.sum) := by
  show (intsD (zI l)).map _ = _
  have : intsD (zI l) = some l := by
    induction l with
    | nil => rfl
    | cons i l ih =>
      show (intsD (zI l)).map (i :: ·) = _
      rw [ih]; rfl
  rw [this]; rfl
theorem mulA_len (r : Nat) : ∀ (n : Nat) (s : List Int × List Int) (hr : r ≤ 6), n ≤ 6 → s.1.length ≤ 100 → s.2.length ≤ 100 → (mulA r n s).1.length ≤ 100 + 20 * n ∧ (mulA r n s).2.length ≤ 100 + 20 * n
  | 0, s, _, _, h1, h2 => ⟨by simpa [mulA] using h1, by simpa [mulA] using h2⟩
  | n + 1, s, hr, hn, h1, h2 => by
    obtain ⟨a, b⟩ := mulA_len r n s hr (by omega) h1 h2
    simp only [mulA, tms_len]
    omega
theorem Gn.mono {k k' : Int} {g : D} (h : Gn k g) (hk : k ≤ k') : Gn k' g := by
  obtain ⟨a, b, c, rfl, h1, h2, h3⟩ := h
  exact ⟨a, b, c, rfl, h1, h2, by omega⟩
/-! ### statement by statement -/
theorem st1 (ns : List Int) (i : Nat) (hi : i < 4) (e2 e3 e4 e5 e6 e7 e8 e9 e10 e11 e12 e13 e14 : Option D) : ∃ g, Gn 3000 g ∧ law_1b1 [some (.scr ns), some (.int (i : Nat)), e2, e3, e4, e5, e6, e7, e8, e9, e10, e11, e12, e13, e14, none, none, none, none, none] = .nx [some (.scr ns), some (.int (i : Nat)), some g, e3, e4, e5, e6, e7, e8, e9, e10, e11, e12, e13, e14, none, none, none, none, none] := by
  obtain ⟨g, ios, e, G⟩ := gen_ok ns i hi
  refine ⟨g, G, ?_⟩
  unfold law_1b1
  generalize F__law_generator = F at e ⊢
  simp [e]
theorem st2 {k : Int} {g : D} (G : Gn k g) (hk : k < 100000) (e0 e1 e3 e4 e5 e6 e7 e8 e9 e10 e11 e12 e13 e14 : Option D) : ∃ (w : List Bool) (g' : D), w.length ≤ 12 ∧ Gn (k + 20) g' ∧ law_1b2 [e0, e1, some g, e3, e4, e5, e6, e7, e8, e9, e10, e11, e12, e13, e14, none, none, none, none, none] = .nx [e0, e1, some g', some (.str (Wd w)), e4, e5, e6, e7, e8, e9, e10, e11, e12, e13, e14, none, none, none, none, none] := by
  obtain ⟨r, g1, e, r0, r1, G1⟩ := rnd_ok (n := 13) G (by omega) (by decide) (by decide) (by decide +kernel)
  unfold law_1b2
  generalize hme : (mCallR F__law_pick _ _ _ _) = me
  obtain ⟨ys, en', q, hl, w, g', hw, G', he⟩ := comp_rng (g := gSet 17) (mt := mC (.bl true)) (me := me) (vs := [17]) (fun acc en => ∃ (w : List Bool) (g' : D), acc = w.map (fun b => D.str (sg1 b)) ∧ Gn (k + 1 + acc.length) g' ∧ en = [e0, e1, some g', e3, e4, e5, e6, e7, e8, e9, e10, e11, e12, e13, e14, none, none, none, none, none]) r.toNat [e0, e1, some g1, e3, e4, e5, e6, e7, e8, e9, e10, e11, e12, e13, e14, none, none, none, none, none] (by omega) (fun i acc en hi ha ⟨w, g', hw, G', he⟩ => by
    obtain ⟨x, g2, e2, hx, G2⟩ := pick_ok (xs := [.str "R", .str "U"]) G' (by omega) (by simp) (by simp) (by decide +kernel)
    have : ∃ b : Bool, x = .str (sg1 b) := by
      simp only [List.mem_cons, List.not_mem_nil, or_false] at hx
      rcases hx with rfl | rfl
      · exact ⟨true, rfl⟩
      · exact ⟨false, rfl⟩
    obtain ⟨b, rfl⟩ := this
    subst he hme
    generalize F__law_pick = F at e2 ⊢
    simp [e2]
    exact ⟨⟨w ++ [b], by simp [hw]⟩, G2.mono (by omega)⟩) ⟨[], g1, rfl, G1.mono (by simp), rfl⟩
  subst he hw
  have lw : w.length ≤ 12 := by simp at hl; omega
  refine ⟨w, g', lw, G'.mono (by simp; omega), ?_⟩
  have j := join_ok w (by omega)
  have k1 : -1000000 ≤ r := by omega
  have k2 : r ≤ 1000000 := by omega
  generalize F__law_random = F at e ⊢
  simp [e, k1, k2, q, j]
theorem st3 (e0 e1 e2 e4 e5 e6 e7 e8 e9 e10 e11 e12 e13 e14 : Option D) (w : List Bool) : law_1b3 [e0, e1, e2, some (.str (Wd w)), e4, e5, e6, e7, e8, e9, e10, e11, e12, e13, e14, none, none, none, none, none] = .nx [e0, e1, e2, some (.str (Wd w)), some (wy w), some (.int (bx 0 0 w : Nat)), e6, e7, e8, e9, e10, e11, e12, e13, e14, none, none, none, none, none] := by
  obtain ⟨ios, e⟩ := below_ok w
  unfold law_1b3
  generalize ((bx 0 0 w : Nat) : Int) = q at e ⊢
  generalize F__law_below = F at e ⊢
  simp [e, wy, pt]
theorem exa_ints (n : Nat) (l : List Int) (hl : l.length ≤ 100000) : Exa (n + 2) (.lst (zI l)) := by
  refine ⟨by simpa [zI] using hl, fun d hd => ?_⟩
  obtain ⟨i, _, rfl⟩ := List.mem_map.mp hd
  exact trivial
theorem st4 (e0 e1 e2 e3 e6 e7 e8 e9 e10 e11 e12 e13 e14 : Option D) (w : List Bool) (hw : w.length ≤ 12) : law_1b4 [e0, e1, e2, e3, some (wy w), some (.int (bx 0 0 w : Nat)), e6, e7, e8, e9, e10, e11, e12, e13, e14, none, none, none, none, none] = .nx [e0, e1, e2, e3, some (wy w), some (.int (bx 0 0 w : Nat)), e6, e7, e8, e9, e10, e11, e12, e13, e14, none, none, none, none, none] := by
  obtain ⟨ios, e⟩ := boxes_ok w hw
  replace e : F_boxes_below [wy w] = _ := e
  generalize ((bx 0 0 w : Nat) : Int) = q at e ⊢
  have x : F__law_exact 8 [.lst [.int q, .int q], .lst [.int q, .int q]] = .ok (.bl true) [none, none, none] := exact_self 8 _ (exa_ints 6 [q, q] (by simp))
  unfold law_1b4
  generalize F_boxes_below = F at e ⊢
  generalize F__law_exact 8 = F2 at x ⊢
  generalize wy w = ww at e ⊢
  simp [e, x]
theorem st5 {k : Int} {g : D} (G : Gn k g) (hk : k < 100000) (e0 e1 e3 e4 e5 e6 e7 e8 e9 e10 e11 e12 e13 e14 : Option D) :
    ∃ (g' : D) (r u : Nat), r ≤ 6 ∧ u ≤ 6 ∧ Gn (k + 2) g' ∧ law_1b5 [e0, e1, some g, e3, e4, e5, e6, e7, e8, e9, e10, e11, e12, e13, e14, none, none, none, none, none] = .nx [e0, e1, some g', e3, e4, e5, some (.int (r : Nat)), some (.int (u : Nat)), e8, e9, e10, e11, e12, e13, e14, none, none, none, none, none] := by
  obtain ⟨a, g1, e1', a0, a1, G1⟩ := rnd_ok (n := 7) G (by omega) (by decide) (by decide) (by decide +kernel)
  obtain ⟨b, g2, e2', b0, b1, G2⟩ := rnd_ok (n := 7) G1 (by omega) (by decide) (by decide) (by decide +kernel)
  obtain ⟨r, hr⟩ := Int.eq_ofNat_of_zero_le a0
  obtain ⟨u, hu⟩ := Int.eq_ofNat_of_zero_le b0
  refine ⟨g2, r, u, by omega, by omega, G2.mono (by omega), ?_⟩
  rw [← hr, ← hu]
  unfold law_1b5
  generalize F__law_random = F at e1' e2' ⊢
  simp [e1', e2']
theorem st6 (e0 e1 e2 e3 e4 e5 e8 e9 e10 e11 e12 e13 e14 : Option D) (R U : Int) (ws : List (List Bool)) (ios : En) (hl : ws.length ≤ 4096) (e : F__law_words [.int R, .int U] = .ok (.lst (ws.map fun w => .str (Wd w))) ios) :
    law_1b6 [e0, e1, e2, e3, e4, e5, some (.int R), some (.int U), e8, e9, e10, e11, e12, e13, e14, none, none, none, none, none] = .nx [e0, e1, e2, e3, e4, e5, some (.int R), some (.int U), some (.lst (ws.map fun w => .int (bx 0 0 w : Nat))), e9, e10, e11, e12, e13, e14, none, none, none, none, none] := by
  have c := comp_map (g := gSet 15) (mt := mC (.bl true)) (me := mCall F__law_below [0] (mCons (mVar 15) mNil)) (vs := [15]) (en := [e0, e1, e2, e3, e4, e5, some (.int R), some (.int U), e8, e9, e10, e11, e12, e13, e14, none, none, none, none, none]) (fun w => .str (Wd w)) (fun w => .int (bx 0 0 w : Nat)) ws (by simp; omega) (fun w hw => by
    obtain ⟨ios, e⟩ := below_ok w
    generalize ((bx 0 0 w : Nat) : Int) = q at e ⊢
    generalize F__law_below = F at e ⊢
    simp [e])
  unfold law_1b6
  generalize mCall F__law_below _ _ = me at c ⊢
  generalize F__law_words = F at e ⊢
  simp [e, c]
theorem st7x (en : List (Option D)) (ws : List (List Bool)) (hl : ws.length ≤ 4096) (b : Nat) (e0 e1 e2 e3 e4 e5 e6 e7 e9 e10 e11 e12 e13 e14 : Option D) :
    cStep (gSet 16) (mC (.bl true)) (m1 dLen (mLc (mIt dItems (mVar 8)) (gSet 15) (mB (eqD false) (mVar 15) (mVarS 16)) (mVar 15) [15])) [16] (.int (b : Nat)) [e0, e1, e2, e3, e4, e5, e6, e7, some (.lst (ws.map fun w => .int (bx 0 0 w : Nat))), e9, e10, e11, e12, e13, e14, none, none, none, none, none] = some (some (.int (cn ws b : Nat)), [e0, e1, e2, e3, e4, e5, e6, e7, some (.lst (ws.map fun w => .int (bx 0 0 w : Nat))), e9, e10, e11, e12, e13, e14, none, none, none, none, none]) := by
  have c := comp_flt (g := gSet 15) (mt := (mB (eqD false) (mVar 15) (mVarS 16))) (me := mVar 15) (vs := [15]) (en := [e0, e1, e2, e3, e4, e5, e6, e7, some (.lst (ws.map fun w => .int (bx 0 0 w : Nat))), e9, e10, e11, e12, e13, e14, none, some (.int (b : Nat)), none, none, none]) (fun w => .int (bx 0 0 w : Nat)) (fun w => bx 0 0 w == b) (fun w => .int (bx 0 0 w : Nat)) ws (by simp; omega) (fun w _ => by
    by_cases h : bx 0 0 w = b
    · subst h
      simp
    · have h2 : ¬ ((bx 0 0 w : Nat) : Int) = (b : Nat) := by omega
      have h3 : (bx 0 0 w == b) = false := by simpa using h
      rw [h3]
      generalize ((bx 0 0 w : Nat) : Int) = q at h2 ⊢
      generalize ((b : Nat) : Int) = q2 at h2 ⊢
      simp [h2])
  have e : ((ws.filter fun w => bx 0 0 w == b).map fun w => D.int (bx 0 0 w : Nat)).length = cn ws b := by simp [cn]
  generalize ((ws.filter fun w => bx 0 0 w == b).map fun w => D.int (bx 0 0 w : Nat)) = L at c e
  rw [← e]
  generalize (mB (eqD false) _ _) = mt at c ⊢
  generalize ((b : Nat) : Int) = B at c ⊢
  generalize (ws.map fun w => D.int (bx 0 0 w : Nat)) = M at c ⊢
  simp [c]
theorem st7 (e0 e1 e2 e3 e4 e5 e9 e10 e11 e12 e13 e14 : Option D) (R U M : Int) (N : Nat) (ws : List (List Bool)) (hl : ws.length ≤ 4096) (k1 : -18446744073709551616 < R) (k2 : R < 18446744073709551616) (hM : R * U + 1 = M) (k3 : -1000000 ≤ M) (k4 : M ≤ 1000000) (hN : M.toNat = N) (hz : N ≤ 1000000) :
    law_1b7 [e0, e1, e2, e3, e4, e5, some (.int R), some (.int U), some (.lst (ws.map fun w => .int (bx 0 0 w : Nat))), e9, e10, e11, e12, e13, e14, none, none, none, none, none] = .nx [e0, e1, e2, e3, e4, some (.lst (dI (cL ws N))), some (.int R), some (.int U), some (.lst (ws.map fun w => .int (bx 0 0 w : Nat))), e9, e10, e11, e12, e13, e14, none, none, none, none, none] := by
  have c := comp_map (g := gSet 16) (mt := mC (.bl true)) (me := (m1 dLen (mLc (mIt dItems (mVar 8)) (gSet 15) (mB (eqD false) (mVar 15) (mVarS 16)) (mVar 15) [15]))) (vs := [16]) (en := [e0, e1, e2, e3, e4, e5, some (.int R), some (.int U), some (.lst (ws.map fun w => .int (bx 0 0 w : Nat))), e9, e10, e11, e12, e13, e14, none, none, none, none, none]) (fun b : Nat => D.int (0 + (b : Int))) (fun b => .int (cn ws b : Nat)) (List.range N) (by simpa using hz) (fun b _ => by rw [Int.zero_add]; exact st7x [] ws hl b e0 e1 e2 e3 e4 e5 (some (.int R)) (some (.int U)) e9 e10 e11 e12 e13 e14)
  have r : (List.range N).map (fun b : Nat => D.int (0 + (b : Int))) = rngD 0 N := rfl
  rw [r] at c
  have e : (List.range N).map (fun b => D.int (cn ws b : Nat)) = dI (cL ws N) := by simp [dI, cL]
  rw [e] at c
  unfold law_1b7
  generalize (m1 dLen _) = me at c ⊢
  generalize dI (cL ws N) = Q at c ⊢
  generalize (ws.map fun w => D.int (bx 0 0 w : Nat)) = M2 at c ⊢
  simp [k1, k2, hM, k3, k4, hN, c]
theorem st8 (e0 e1 e2 e3 e4 e5 e8 e9 e10 e11 e12 e13 e14 : Option D) (R U : Int) (t : D) (ios : En) (e : F_ways_by_boxes [.int R, .int U] = .ok t ios) :
    law_1b8 [e0, e1, e2, e3, e4, e5, some (.int R), some (.int U), e8, e9, e10, e11, e12, e13, e14, none, none, none, none, none] = .nx [e0, e1, e2, e3, e4, e5, some (.int R), some (.int U), e8, some t, e10, e11, e12, e13, e14, none, none, none, none, none] := by
  unfold law_1b8
  generalize F_ways_by_boxes = F at e ⊢
  simp [e]
end Im
namespace Im
open PySem PySem.Spec PyProof.Rows L2
theorem st9 {k : Int} {g : D} (G : Gn k g) (hk : k < 100000) (e0 e1 e3 e4 e8 e10 e11 e12 e13 e14 : Option D) (R U : Int) (ns : List Nat) (ios1 ios2 : En) (hl : ns.length ≤ 100) (hn : ∀ n ∈ ns, n < 1000000) (hr : ns.reverse = ns)
    (w1 : F_ways_by_boxes [.int R, .int U] = .ok (.lst (dI ns)) ios1) (w2 : F_ways_by_boxes [.int U, .int R] = .ok (.lst (dI ns)) ios2) :
    ∃ g', Gn (k + 1) g' ∧ law_1b9 [e0, e1, some g, e3, e4, some (.lst (dI ns)), some (.int R), some (.int U), e8, some (.lst (dI ns)), e10, e11, e12, e13, e14, none, none, none, none, none] = .nx [e0, e1, some g', e3, e4, some (.lst (dI ns)), some (.int R), some (.int U), e8, none, e10, e11, e12, e13, e14, none, none, none, none, none] := by
  obtain ⟨g', G', o⟩ := own_ok G hk ns hl hn
  refine ⟨g', G', ?_⟩
  have x : F__law_exact 8 [.lst [.lst (dI ns), .lst (dI ns), .lst (dI ns), .lst (dI ns)], .lst [.lst (dI ns), .lst (dI ns), .lst (dI ns), .lst (dI ns)]] = .ok (.bl true) [none, none, none] := exact_self 8 _ (by
    refine ⟨by simp, fun d hd => ?_⟩
    simp only [List.mem_cons, List.not_mem_nil, or_false, or_self] at hd
    subst hd
    rw [dI_toI]
    exact exa_ints 5 _ (by simp [toI]; omega))
  have rv : (dI ns).reverse = dI ns := by
    have : dI ns.reverse = (dI ns).reverse := by simp [dI]
    rw [← this, hr]
  unfold law_1b9
  generalize dI ns = L at o x rv w1 w2 ⊢
  generalize F__law_own = F1 at o ⊢
  generalize F_ways_by_boxes = F2 at w1 w2 ⊢
  generalize F__law_exact 8 = F3 at x ⊢
  simp [o, x, rv, w1, w2]
theorem st10 (e0 e1 e2 e3 e4 e8 e9 e10 e11 e12 e13 e14 : Option D) (R U S : Int) (ns : List Nat) (ios : En) (hl : 1 ≤ ns.length) (hl2 : ns.length ≤ 100) (hs : (toI ns).sum = S) (ch : F__law_chosen [.int (R + U), .int U] = .ok (.int S) ios) (hr : ∀ i, i < ns.length / 2 → ns.getD i 0 ≤ ns.getD (i + 1) 0) :
    law_1b10 [e0, e1, e2, e3, e4, some (.lst (dI ns)), some (.int R), some (.int U), e8, e9, e10, e11, e12, e13, e14, none, none, none, none, none] = .nx [e0, e1, e2, e3, e4, some (.lst (dI ns)), some (.int R), some (.int U), e8, e9, e10, e11, e12, e13, e14, none, none, none, none, none] := by
  have s : dSum (.lst (dI ns)) = some (.int S) := by rw [dI_toI, sum_zI, hs]
  have c := comp_flt (g := gSet 19) (mt := (mB dLt (mB dIx (mVar 5) (mVarS 19)) (mB dIx (mVar 5) (mB dSub (mVarS 19) (mC (.int 1)))))) (me := mVarS 19) (vs := [19]) (en := [e0, e1, e2, e3, e4, some (.lst (dI ns)), some (.int R), some (.int U), e8, e9, e10, e11, e12, e13, e14, none, none, none, none, none]) (fun i : Nat => D.int (1 + (i : Int))) (fun _ => false) (fun _ => .non) (List.range (ns.length / 2)) (by simp; omega) (fun i hi => by
    have hi := List.mem_range.mp hi
    have h := hr i hi
    have a0 : atI (dI ns) ((i : Nat) : Int) = some (.int (ns.getD i 0 : Nat)) := by
      rw [atI_nat]; simp [dI, List.getD_eq_getElem?_getD, show i < ns.length by omega]
    have a1 : atI (dI ns) (1 + ((i : Nat) : Int)) = some (.int (ns.getD (i + 1) 0 : Nat)) := by
      rw [show 1 + ((i : Nat) : Int) = ((i + 1 : Nat) : Int) by omega, atI_nat]; simp [dI, List.getD_eq_getElem?_getD, show i + 1 < ns.length by omega]
    have q : ¬ ((ns.getD (i + 1) 0 : Nat) : Int) < (ns.getD i 0 : Nat) := by omega
    have q1 : 1 + ((i : Nat) : Int) - 1 = (i : Nat) := by omega
    generalize 1 + ((i : Nat) : Int) = J at a1 q1 ⊢
    generalize ((ns.getD (i + 1) 0 : Nat) : Int) = A at a1 q ⊢
    generalize ((ns.getD i 0 : Nat) : Int) = B at a0 q ⊢
    generalize ((i : Nat) : Int) = I at a0 q1 ⊢
    generalize dI ns = L at a0 a1 ⊢
    simp [a0, a1, q, q1])
  have f : List.filter (fun (_ : Nat) => false) (List.range (ns.length / 2)) = [] := by simp
  rw [f] at c
  have r : (List.range (ns.length / 2)).map (fun i : Nat => D.int (1 + (i : Int))) = rngD 1 (ns.length / 2) := rfl
  rw [r] at c
  have dl : (dI ns).length = ns.length := by simp [dI]
  have k0 : (((dI ns).length : Nat) : Int).fdiv 2 = ((ns.length / 2 : Nat) : Int) := by
    rw [dl, Int.fdiv_eq_ediv_of_nonneg _ (by decide)]; omega
  have k1 : -1000000 ≤ ((ns.length / 2 : Nat) : Int) + 1 := by omega
  have k2 : ((ns.length / 2 : Nat) : Int) + 1 ≤ 1000000 := by omega
  have k3 : (((ns.length / 2 : Nat) : Int) + 1 - 1).toNat = ns.length / 2 := by omega
  have k4 : ((ns.length / 2 : Nat) : Int).toNat = ns.length / 2 := by omega
  unfold law_1b10
  generalize (mB dLt _ _) = mt at c ⊢
  generalize F__law_chosen = F at ch ⊢
  generalize hL : (((dI ns).length : Nat) : Int) = LL at k0
  generalize ((ns.length / 2 : Nat) : Int) = HH at k0 k1 k2 k3 k4
  generalize ns.length / 2 = N at c k3 k4
  generalize dI ns = L at s c hL ⊢
  have z : eqD true (.lst []) (.lst []) = some (.bl false) := by rfl
  simp at c
  simp [s, ch, hL, k0, k1, k2, k3, k4, c, z]
theorem st11 (e0 e1 e2 e3 e4 e6 e7 e8 e9 e10 e11 e12 e13 e14 : Option D) (d : D) :
    law_1b11 [e0, e1, e2, e3, e4, some d, e6, e7, e8, e9, e10, e11, e12, e13, e14, none, none, none, none, none] = .nx [e0, e1, e2, e3, e4, some d, e6, e7, e8, e9, some d, some (.lst (zI [1])), e12, e13, e14, none, none, none, none, none] := by
  unfold law_1b11
  simp [zI]
theorem st12b (e0 e1 e2 e3 e4 e5 e7 e8 e9 e13 e14 : Option D) (r p : Nat) (a b : List Int) (ha : a.length ≤ 900) (hb : b.length ≤ 900) (hr : r ≤ 6) (hp : p ≤ 10) :
    law_1b12b [e0, e1, e2, e3, e4, e5, some (.int (r : Nat)), e7, e8, e9, some (.lst (zI a)), some (.lst (zI b)), some (.int (p : Nat)), e13, e14, none, none, none, none, none] = .nx [e0, e1, e2, e3, e4, e5, some (.int (r : Nat)), e7, e8, e9, some (.lst (zI (tms a p))), some (.lst (zI (tms b (r + p)))), some (.int (p : Nat)), e13, e14, none, none, none, none, none] := by
  obtain ⟨i1, t1⟩ := times_ok a p (by omega) (by omega)
  obtain ⟨i2, t2⟩ := times_ok b (r + p) (by omega) (by omega)
  have q : ((r + p : Nat) : Int) = (r : Nat) + (p : Nat) := by omega
  rw [q] at t2
  unfold law_1b12b
  generalize F__law_times = F at t1 t2 ⊢
  generalize zI (tms a p) = A at t1 ⊢
  generalize zI (tms b (r + p)) = B at t2 ⊢
  generalize ((r : Nat) : Int) = R at t2 ⊢
  generalize ((p : Nat) : Int) = P at t1 t2 ⊢
  simp [t1, t2]
theorem rng1_get {n i : Nat} {d : D} (h : (rngD 1 n)[i]? = some d) : d = .int ((i + 1 : Nat) : Int) ∧ i < n := by
  unfold rngD at h
  rw [List.getElem?_map] at h
  by_cases hi : i < n
  · rw [List.getElem?_range hi] at h
    simp only [Option.map_some, Option.some.injEq] at h
    refine ⟨?_, hi⟩
    rw [← h]
    congr 1
    omega
  · rw [List.getElem?_eq_none (by simpa using hi)] at h
    cases h
theorem mul_step1 (r i : Nat) (s : List Int × List Int) : (mulA r (i + 1) s).1 = tms (mulA r i s).1 (i + 1) := by rw [mulA]
theorem mul_step2 (r i : Nat) (s : List Int × List Int) : (mulA r (i + 1) s).2 = tms (mulA r i s).2 (r + (i + 1)) := by rw [mulA]
theorem lst12 (B : SM) (d : D) (e0 e1 e2 e3 e4 e5 e6 e7 e8 e9 e10 e11 e12 e13 e14 e15 e16 e17 e18 e19 : Option D) : lStep (gSet 12) B d [e0, e1, e2, e3, e4, e5, e6, e7, e8, e9, e10, e11, e12, e13, e14, e15, e16, e17, e18, e19] = B [e0, e1, e2, e3, e4, e5, e6, e7, e8, e9, e10, e11, some d, e13, e14, e15, e16, e17, e18, e19] := rfl
theorem st12s (e0 e1 e2 e3 e4 e5 e7 e8 e9 e12 e13 e14 : Option D) (r p : Nat) (a b : List Int) (ha : a.length ≤ 900) (hb : b.length ≤ 900) (hr : r ≤ 6) (hp : p ≤ 10) :
    lStep (gSet 12) law_1b12b (.int (p : Nat)) [e0, e1, e2, e3, e4, e5, some (.int (r : Nat)), e7, e8, e9, some (.lst (zI a)), some (.lst (zI b)), e12, e13, e14, none, none, none, none, none] = .nx [e0, e1, e2, e3, e4, e5, some (.int (r : Nat)), e7, e8, e9, some (.lst (zI (tms a p))), some (.lst (zI (tms b (r + p)))), some (.int (p : Nat)), e13, e14, none, none, none, none, none] := by
  rw [lst12]
  exact st12b e0 e1 e2 e3 e4 e5 e7 e8 e9 e13 e14 r p a b ha hb hr hp
theorem st12l (e0 e1 e2 e3 e4 e5 e7 e8 e9 e13 e14 : Option D) (r : Nat) (hr : r ≤ 6) (s : List Int × List Int) (ha : s.1.length ≤ 100) (hb : s.2.length ≤ 100) (u : Nat) (e12 : Option D) (hu : u ≤ 6) : ∃ d12,
    loopM (gSet 12) law_1b12b (rngD 1 u) [e0, e1, e2, e3, e4, e5, some (.int (r : Nat)), e7, e8, e9, some (.lst (zI s.1)), some (.lst (zI s.2)), e12, e13, e14, none, none, none, none, none] = .nx [e0, e1, e2, e3, e4, e5, some (.int (r : Nat)), e7, e8, e9, some (.lst (zI (mulA r u s).1)), some (.lst (zI (mulA r u s).2)), d12, e13, e14, none, none, none, none, none] := by
  have key := loop_inv (g := gSet 12) (mb := law_1b12b) (fun n en => ∃ a b d12, a = (mulA r n s).1 ∧ b = (mulA r n s).2 ∧ en = [e0, e1, e2, e3, e4, e5, some (.int (r : Nat)), e7, e8, e9, some (.lst (zI a)), some (.lst (zI b)), d12, e13, e14, none, none, none, none, none]) (rngD 1 u) 0 [e0, e1, e2, e3, e4, e5, some (.int (r : Nat)), e7, e8, e9, some (.lst (zI s.1)), some (.lst (zI s.2)), e12, e13, e14, none, none, none, none, none] (fun i d en hd hI => by
    obtain ⟨a, b, d12, h1, h2, he⟩ := hI
    obtain ⟨hd', hi⟩ := rng1_get hd
    rw [Nat.zero_add] at h1 h2 ⊢
    have i6 : i ≤ 6 := Nat.le_trans (Nat.le_of_lt hi) hu
    have i7 : 100 + 20 * i ≤ 900 := by clear hd; omega
    have i8 : i + 1 ≤ 10 := Nat.le_trans (Nat.succ_le_succ i6) (by decide)
    have ll := mulA_len r i s hr i6 ha hb
    rw [he, hd', st12s e0 e1 e2 e3 e4 e5 e7 e8 e9 d12 e13 e14 r (i + 1) a b (by rw [h1]; exact Nat.le_trans ll.1 i7) (by rw [h2]; exact Nat.le_trans ll.2 i7) hr i8, snx_nx]
    exact ⟨_, _, _, by rw [h1, mul_step1], by rw [h2, mul_step2], rfl⟩) ⟨_, _, _, rfl, rfl, rfl⟩
  obtain ⟨en', q, a, b, d12, h1, h2, he⟩ := key
  have rl : (rngD 1 u).length = u := by simp [rngD]
  rw [rl, Nat.zero_add] at h1 h2
  rw [he, h1, h2] at q
  exact ⟨d12, q⟩
theorem st12x (en en' : En) (body : SM) (U : Int) (u : Nat) (h7 : en[7]? = some (some (.int U))) (hu : (U + 1 - 1).toNat = u) (k1 : -1000000 ≤ U + 1) (k2 : U + 1 ≤ 1000000) (q : loopM (gSet 12) body (rngD 1 u) en = .nx en') :
    mFor (mRng2 (mC (.int 1)) (mB dAddX (mVarS 7) (mC (.int 1)))) (gSet 12) body en = .nx en' := by
  have hu' : U.toNat = u := by rw [← hu]; congr 1; omega
  simp [h7, hu', k1, k2, q]
theorem st12 (e0 e1 e2 e3 e4 e5 e8 e9 e12 e13 e14 : Option D) (r u : Nat) (hr : r ≤ 6) (hu : u ≤ 6) (a b : List Int) (ha : a.length ≤ 100) (hb : b.length ≤ 100) :
    ∃ d12, law_1b12 [e0, e1, e2, e3, e4, e5, some (.int (r : Nat)), some (.int (u : Nat)), e8, e9, some (.lst (zI a)), some (.lst (zI b)), e12, e13, e14, none, none, none, none, none] = .nx [e0, e1, e2, e3, e4, e5, some (.int (r : Nat)), some (.int (u : Nat)), e8, e9, some (.lst (zI (mulA r u (a, b)).1)), some (.lst (zI (mulA r u (a, b)).2)), d12, e13, e14, none, none, none, none, none] := by
  obtain ⟨d12, q⟩ := st12l e0 e1 e2 e3 e4 e5 (some (.int (u : Nat))) e8 e9 e13 e14 r hr (a, b) ha hb u e12 hu
  refine ⟨d12, ?_⟩
  unfold law_1b12
  exact st12x _ _ _ (u : Nat) u rfl (by omega) (by omega) (by omega) q
theorem mul41 (n : Nat) (h : n ≤ 1000) : n * (40 + 1) ≤ 41000 := by omega
theorem nz_zI (l : List Int) (h : ∀ i ∈ l, i.natAbs < 1000000) (hl : l.length < 1000) : Nz 1 41000 (.lst (zI l)) := by
  have hl' : (zI l).length ≤ 1000 := by
    show (l.map D.int).length ≤ 1000
    rw [List.length_map]; exact Nat.le_of_lt hl
  have a : Nz (0 + 1) ((zI l).length * (40 + 1)) (.lst (zI l)) := nz_lst (nzl_all (n := 0) (w := 40) (ds := zI l) fun d hd => by
    obtain ⟨i, hi, rfl⟩ := List.mem_map.mp hd
    have := h i hi
    exact nz_int i (Nat.lt_of_lt_of_le this (by decide)))
  have m := mul41 _ hl'
  generalize (zI l).length * (40 + 1) = w at a m
  exact a.mono (Nat.le_refl _) m
theorem st13 (e0 e1 e2 e3 e4 e5 e6 e7 e8 e9 e12 e13 e14 : Option D) (l : List Int) (h : ∀ i ∈ l, i.natAbs < 1000000) (hl : l.length < 1000) :
    law_1b13 [e0, e1, e2, e3, e4, e5, e6, e7, e8, e9, some (.lst (zI l)), some (.lst (zI l)), e12, e13, e14, none, none, none, none, none] = .nx [e0, e1, e2, e3, e4, e5, e6, e7, e8, e9, some (.lst (zI l)), some (.lst (zI l)), e12, e13, e14, none, none, none, none, none] := by
  have q := eqD_self true (nz_zI l h hl)
  unfold law_1b13
  generalize zI l = L at q ⊢
  simp [q]
theorem st14 (e0 e1 e2 e3 e4 e5 e6 e7 e8 e9 e10 e11 e12 e13 e14 : Option D) :
    law_1b14 [e0, e1, e2, e3, e4, e5, e6, e7, e8, e9, e10, e11, e12, e13, e14, none, none, none, none, none] = .nx [e0, e1, e2, e3, e4, e5, e6, e7, e8, e9, e10, e11, e12, some (.lst []), e14, none, none, none, none, none] := by
  unfold law_1b14
  simp
/-! ### asks -/
theorem below_badway {w : D} {c : Str} {v : D} (h : F_check_from [w] = .exc c v) : F_boxes_below [w] = .exc c v := by
  unfold F_boxes_below m_boxes_below; simp [h]
theorem ways_bad1 {a b : D} {c : Str} {v : D} (h : F_check_side [a] = .exc c v) : F_ways_by_boxes [a, b] = .exc c v := by
  unfold F_ways_by_boxes m_ways_by_boxes; simp [h]
theorem ways_bad2 {a b : D} {c : Str} {v d : D} {ios : En} (ha : F_check_side [a] = .ok d ios) (h : F_check_side [b] = .exc c v) : F_ways_by_boxes [a, b] = .exc c v := by
  unfold F_ways_by_boxes m_ways_by_boxes; simp [h, ha]
def fdoor : Int → List D → FRes := fun i => if i = 0 then F_boxes_below else F_ways_by_boxes
theorem caught_ok {i : Int} {as : List D} {c : Str} {v : D} {s t : Str} (hi : (i = 0 ∧ as.length = 1) ∨ (i = 1 ∧ as.length = 2)) (h : fdoor i as = .exc c v) (hs : dRepr (.tup as) = some (.str s)) (ss : PyData.strOk s = true)
    (ht : dRepr (.lst [.bl (c == ("InvalidWay" : Str)), .bl (c == ("InvalidNumber" : Str)), v]) = some (.str t)) : ∃ ios, F__law_caught [.int i, .tup as] = .ok (.str t) ios := by
  have q := eqS s ss
  unfold F__law_caught m__law_caught
  rcases hi with ⟨rfl, hl⟩ | ⟨rfl, hl⟩
  · match as, hl with
    | [a], _ =>
      replace h : F_boxes_below [a] = .exc c v := h
      simp [hs, h, q, ht]
  · match as, hl with
    | [a, b], _ =>
      replace h : F_ways_by_boxes [a, b] = .exc c v := h
      simp [hs, h, q, ht]
def AskOk (a : D) : Prop := ∃ (i : Int) (as : List D) (k : D) (t : Str), a = .tup [.int i, .tup as, k] ∧ (∃ ios, F__law_caught [.int i, .tup as] = .ok (.str t) ios) ∧ dRepr k = some (.str t) ∧ PyData.strOk t = true
theorem ask_of {i : Int} {as : List D} {c : Str} {v k : D} (hi : (i = 0 ∧ as.length = 1) ∨ (i = 1 ∧ as.length = 2)) (h : fdoor i as = .exc c v) (hn : ∀ a ∈ as, Nz 3 1000 a) (hv : Nz 3 1000 v)
    (hk : k = .lst [.bl (c == ("InvalidWay" : Str)), .bl (c == ("InvalidNumber" : Str)), v]) : AskOk (.tup [.int i, .tup as, k]) := by
  subst hk
  have hl : as.length ≤ 3 := by omega
  obtain ⟨s, hs, ss, _⟩ := repr_nz ((nzT hn).mono (Nat.le_refl _) (Nat.mul_le_mul_right 1001 hl))
  obtain ⟨t, ht, st, _⟩ := repr_nz (n := 4) (w := 3 * 1001) ((nzLs (n := 3) (w := 1000) (ds := [.bl (c == ("InvalidWay" : Str)), .bl (c == ("InvalidNumber" : Str)), v]) (fun d hd => by
    simp only [List.mem_cons, List.not_mem_nil, or_false] at hd
    rcases hd with rfl | rfl | rfl
    · exact (nz_bl _).mono (by omega) (by omega)
    · exact (nz_bl _).mono (by omega) (by omega)
    · exact hv)).mono (Nat.le_refl _) (Nat.le_refl _))
  exact ⟨i, as, _, t, rfl, caught_ok hi h hs ss ht, ht, st⟩
def wrongs : List D := [D.non, .int (-1), .int 7, .bl true, .str "3", .lst [.int 3]]
abbrev ans1 (x : D) : D := .lst [.bl false, .bl true, x]
abbrev ans2 (x : D) : D := .lst [.bl true, .bl false, x]
def asks1 (R U : Int) (x : D) : List D := [.tup [.int 1, .tup [x, .str "z"], ans1 x], .tup [.int 1, .tup [x, .int U], ans1 x], .tup [.int 1, .tup [.int R, x], ans1 x]]
def ask2 (x : D) : D := .tup [.int 0, .tup [x], ans2 x]
theorem st15b (e0 e1 e2 e3 e4 e5 e8 e9 e10 e11 e12 : Option D) (R U : Int) (acc : List D) (x : D) (ha : acc.length ≤ 1000) :
    law_1b15b [e0, e1, e2, e3, e4, e5, some (.int R), some (.int U), e8, e9, e10, e11, e12, some (.lst acc), some x, none, none, none, none, none] = .nx [e0, e1, e2, e3, e4, e5, some (.int R), some (.int U), e8, e9, e10, e11, e12, some (.lst (acc ++ asks1 R U x)), some x, none, none, none, none, none] := by
  unfold law_1b15b
  have k1 : acc.length + 3 ≤ 1000000 := by omega
  simp [k1, asks1]
theorem asks1_len (R U : Int) (x : D) : (asks1 R U x).length = 3 := rfl
theorem st15 (e0 e1 e2 e3 e4 e5 e8 e9 e10 e11 e12 e14 : Option D) (R U : Int) :
    ∃ d14, law_1b15 [e0, e1, e2, e3, e4, e5, some (.int R), some (.int U), e8, e9, e10, e11, e12, some (.lst []), e14, none, none, none, none, none] = .nx [e0, e1, e2, e3, e4, e5, some (.int R), some (.int U), e8, e9, e10, e11, e12, some (.lst (wrongs.flatMap (asks1 R U))), d14, none, none, none, none, none] := by
  have s := st15b e0 e1 e2 e3 e4 e5 e8 e9 e10 e11 e12 R U
  have s1 := s [] .non (by simp)
  have s2 := s ([] ++ asks1 R U .non) (.int (-1)) (by simp [asks1_len])
  have s3 := s ([] ++ asks1 R U .non ++ asks1 R U (.int (-1))) (.int 7) (by simp [asks1_len])
  have s4 := s ([] ++ asks1 R U .non ++ asks1 R U (.int (-1)) ++ asks1 R U (.int 7)) (.bl true) (by simp [asks1_len])
  have s5 := s ([] ++ asks1 R U .non ++ asks1 R U (.int (-1)) ++ asks1 R U (.int 7) ++ asks1 R U (.bl true)) (.str "3") (by simp [asks1_len])
  have s6 := s ([] ++ asks1 R U .non ++ asks1 R U (.int (-1)) ++ asks1 R U (.int 7) ++ asks1 R U (.bl true) ++ asks1 R U (.str "3")) (.lst [.int 3]) (by simp [asks1_len])
  refine ⟨some (.lst [.int 3]), ?_⟩
  unfold law_1b15
  generalize law_1b15b = B at s1 s2 s3 s4 s5 s6 ⊢
  simp only [List.nil_append, List.append_assoc] at s1 s2 s3 s4 s5 s6
  simp [loop_cons, s1, s2, s3, s4, s5, s6, wrongs]
theorem st16b (e0 e1 e2 e3 e4 e5 e6 e7 e8 e9 e10 e11 e12 : Option D) (acc : List D) (x : D) (ha : acc.length ≤ 1000) :
    law_1b16b [e0, e1, e2, e3, e4, e5, e6, e7, e8, e9, e10, e11, e12, some (.lst acc), some x, none, none, none, none, none] = .nx [e0, e1, e2, e3, e4, e5, e6, e7, e8, e9, e10, e11, e12, some (.lst (acc ++ [ask2 x])), some x, none, none, none, none, none] := by
  unfold law_1b16b
  have k1 : acc.length < 1000000 := by omega
  simp [k1, ask2]
theorem st16 {k : Int} {g : D} (G : Gn k g) (hk : k < 100000) (e0 e1 e3 e5 e6 e7 e8 e9 e10 e11 e12 e14 : Option D) (w : List Bool) (hw : w.length ≤ 12) (acc : List D) (ha : acc.length ≤ 900) :
    ∃ g' x1 x2 d14, x1 ∈ odds w ∧ x2 ∈ odds w ∧ law_1b16 [e0, e1, some g, e3, some (wy w), e5, e6, e7, e8, e9, e10, e11, e12, some (.lst acc), e14, none, none, none, none, none] = .nx [e0, e1, some g', e3, some (wy w), e5, e6, e7, e8, e9, e10, e11, e12, some (.lst (acc ++ [ask2 x1, ask2 x2, ask2 (.tup [.str "way", pt 1 0, .str "R"]), ask2 (.tup [.str "way", pt 0 1, .str ""])])), d14, none, none, none, none, none] := by
  obtain ⟨x1, g1, q1, h1, G1⟩ := bad_way_ok w hw G (by omega)
  obtain ⟨x2, g2, q2, h2, G2⟩ := bad_way_ok w hw G1 (by omega)
  have s := st16b e0 e1 (some g2) e3 (some (wy w)) e5 e6 e7 e8 e9 e10 e11 e12
  have s1 := s acc x1 (by omega)
  have s2 := s (acc ++ [ask2 x1]) x2 (by simp; omega)
  have s3 := s (acc ++ [ask2 x1] ++ [ask2 x2]) (.tup [.str "way", pt 1 0, .str "R"]) (by simp; omega)
  have s4 := s (acc ++ [ask2 x1] ++ [ask2 x2] ++ [ask2 (.tup [.str "way", pt 1 0, .str "R"])]) (.tup [.str "way", pt 0 1, .str ""]) (by simp; omega)
  refine ⟨g2, x1, x2, some (.tup [.str "way", pt 0 1, .str ""]), h1, h2, ?_⟩
  unfold law_1b16
  generalize law_1b16b = B at s1 s2 s3 s4 ⊢
  generalize F__law_bad_way = F at q1 q2 ⊢
  simp only [pt, List.append_assoc] at s1 s2 s3 s4 ⊢
  simp only [wy, pt] at q1 q2 s1 s2 s3 s4 ⊢
  simp at s1 s2 s3 s4
  simp [loop_cons, q1, q2, s1, s2, s3, s4]
theorem ask1_ok (r u : Nat) (hr : r ≤ 6) (hu : u ≤ 6) : ∀ a ∈ wrongs.flatMap (asks1 (r : Nat) (u : Nat)), AskOk a := by
  intro a ha
  obtain ⟨x, hx, ha⟩ := List.mem_flatMap.mp ha
  have b := side_bad (v := x) hx
  have n := side_nz (v := x) hx
  have sr := side_int (r : Nat) (by omega) (by omega)
  have nr : ∀ i : Nat, i ≤ 6 → Nz 3 1000 (.int (i : Nat)) := fun i hi => (nz_int _).mono (by omega) (by omega)
  have nz : Nz 3 1000 (.str "z") := (nz_S "z" (by decide +kernel)).mono (by decide) (by decide)
  have t2 : ∀ {a b : D}, Nz 3 1000 a → Nz 3 1000 b → ∀ d ∈ [a, b], Nz 3 1000 d := fun h1 h2 d hd => by
    simp only [List.mem_cons, List.not_mem_nil, or_false] at hd
    rcases hd with rfl | rfl <;> assumption
  have kN : ans1 x = .lst [.bl (("InvalidNumber" : Str) == ("InvalidWay" : Str)), .bl (("InvalidNumber" : Str) == ("InvalidNumber" : Str)), x] := by
    have h1 : (("InvalidNumber" : Str) == ("InvalidWay" : Str)) = false := by decide +kernel
    have h2 : (("InvalidNumber" : Str) == ("InvalidNumber" : Str)) = true := by decide +kernel
    rw [h1, h2]
  simp only [asks1, List.mem_cons, List.not_mem_nil, or_false] at ha
  rcases ha with rfl | rfl | rfl
  · exact ask_of (.inr ⟨rfl, rfl⟩) (ways_bad1 b) (t2 n nz) n kN
  · exact ask_of (.inr ⟨rfl, rfl⟩) (ways_bad1 b) (t2 n (nr u hu)) n kN
  · exact ask_of (.inr ⟨rfl, rfl⟩) (ways_bad2 sr b) (t2 (nr r hr) n) n kN
theorem ask2_ok (x : D) (hx : BadW x) : AskOk (ask2 x) := by
  obtain ⟨b, n⟩ := hx
  have kN : ans2 x = .lst [.bl (("InvalidWay" : Str) == ("InvalidWay" : Str)), .bl (("InvalidWay" : Str) == ("InvalidNumber" : Str)), x] := by
    have h1 : (("InvalidWay" : Str) == ("InvalidNumber" : Str)) = false := by decide +kernel
    have h2 : (("InvalidWay" : Str) == ("InvalidWay" : Str)) = true := by decide +kernel
    rw [h1, h2]
  exact ask_of (.inl ⟨rfl, rfl⟩) (below_badway b) (fun d hd => by simp at hd; subst hd; exact n) n kN
theorem st17 (e0 e1 e2 e3 e4 e5 e6 e7 e8 e9 e10 e11 e12 e14 : Option D) (acc : List D) (hl : acc.length ≤ 1000) (h : ∀ a ∈ acc, AskOk a) :
    law_1b17 [e0, e1, e2, e3, e4, e5, e6, e7, e8, e9, e10, e11, e12, some (.lst acc), e14, none, none, none, none, none] = .nx [e0, e1, e2, e3, e4, e5, e6, e7, e8, e9, e10, e11, e12, some (.lst acc), e14, none, none, none, none, none] := by
  unfold law_1b17
  generalize hF : F__law_caught = F
  generalize hmt : (mB (eqD true) (mCall F _ _) _) = mt
  have c := comp_flt (g := gSet 18) (mt := mt) (me := mVar 18) (vs := [18]) (en := [e0, e1, e2, e3, e4, e5, e6, e7, e8, e9, e10, e11, e12, some (.lst acc), e14, none, none, none, none, none]) (fun a => a) (fun _ => false) (fun _ => .non) acc (by simp; omega) (fun a ha => by
    obtain ⟨i, as, k, t, rfl, ⟨ios, q⟩, hr, st⟩ := h a ha
    have z := eqS t st
    subst hmt
    rw [hF] at q
    simp [q, hr, z])
  have f : List.filter (fun (_ : D) => false) acc = [] := by simp
  rw [f] at c
  have z : eqD true (.lst []) (.lst []) = some (.bl false) := by rfl
  simp at c
  simp [c, z]
end Im
namespace Im
open PySem PySem.Spec PyProof.Rows L2
/-- what stands between the rounds -/
def Rnd (ns : List Int) (en : En) : Prop := ∃ e1 e2 e3 e4 e5 e6 e7 e8 e9 e10 e11 e12 e13 e14 : Option D, en = [some (.scr ns), e1, e2, e3, e4, e5, e6, e7, e8, e9, e10, e11, e12, e13, e14, none, none, none, none, none]
theorem seq_nx {a b : SM} {e e1 e2 : En} (h : a e = .nx e1) (h' : b e1 = .nx e2) : mSeq a b e = .nx e2 := by
  rw [x_mSeq, h]; exact h'
theorem lst1 (B : SM) (d : D) (e0 e1 e2 e3 e4 e5 e6 e7 e8 e9 e10 e11 e12 e13 e14 e15 e16 e17 e18 e19 : Option D) : lStep (gSet 1) B d [e0, e1, e2, e3, e4, e5, e6, e7, e8, e9, e10, e11, e12, e13, e14, e15, e16, e17, e18, e19] = B [e0, some d, e2, e3, e4, e5, e6, e7, e8, e9, e10, e11, e12, e13, e14, e15, e16, e17, e18, e19] := rfl
theorem round_ok (ns : List Int) (i : Nat) (hi : i < 4) (en : En) (h : Rnd ns en) : SNx (Rnd ns) (lStep (gSet 1) law_1b (.int (i : Nat)) en) := by
  obtain ⟨e1, e2, e3, e4, e5, e6, e7, e8, e9, e10, e11, e12, e13, e14, rfl⟩ := h
  obtain ⟨g, G, s1⟩ := st1 ns i hi e2 e3 e4 e5 e6 e7 e8 e9 e10 e11 e12 e13 e14
  generalize hS : some (D.scr ns) = S at s1
  generalize hI : some (D.int (i : Nat)) = I at s1
  obtain ⟨w, g2, hw, G2, s2⟩ := st2 G (by decide) S I e3 e4 e5 e6 e7 e8 e9 e10 e11 e12 e13 e14
  have s3 := st3 S I (some g2) e4 e5 e6 e7 e8 e9 e10 e11 e12 e13 e14 w
  have s4 := st4 S I (some g2) (some (.str (Wd w))) e6 e7 e8 e9 e10 e11 e12 e13 e14 w hw
  generalize hq : some (D.int (bx 0 0 w : Nat)) = Q at s3 s4
  obtain ⟨g5, r, u, hr, hu, G5, s5⟩ := st5 G2 (by decide) S I (some (.str (Wd w))) (some (wy w)) Q e6 e7 e8 e9 e10 e11 e12 e13 e14
  have ck := chk_of hr hu
  obtain ⟨ios6, lw⟩ := law_words r u (by omega)
  have wl := wds_len r u (by omega)
  have s6 := st6 S I (some g5) (some (.str (Wd w))) (some (wy w)) Q e8 e9 e10 e11 e12 e13 e14 (r : Nat) (u : Nat) (wds r u) ios6 wl lw
  have m36 := mul_le36 hr hu
  have s7 := st7 S I (some g5) (some (.str (Wd w))) (some (wy w)) Q e9 e10 e11 e12 e13 e14 (r : Nat) (u : Nat) ((r * u + 1 : Nat) : Int) (r * u + 1) (wds r u) wl (by omega) (by omega) (by push_cast; rfl) (by omega) (by omega) (by omega) (by omega)
  obtain ⟨ios8, w8⟩ := ways_ok r u hr hu
  obtain ⟨ios9, w9⟩ := ways_ok u r hu hr
  rw [ck.swp] at w9
  generalize hC : some (D.lst ((wds r u).map fun w => D.int (bx 0 0 w : Nat))) = CC at s6 s7
  have s8 := st8 S I (some g5) (some (.str (Wd w))) (some (wy w)) (some (.lst (dI (cW r u)))) CC e9 e10 e11 e12 e13 e14 (r : Nat) (u : Nat) _ ios8 w8
  have cl := cW_len r u
  obtain ⟨g9, G9, s9⟩ := st9 G5 (by decide) S I (some (.str (Wd w))) (some (wy w)) CC e10 e11 e12 e13 e14 (r : Nat) (u : Nat) (cW r u) ios8 ios9 (by omega) ck.sml ck.rev w8 w9
  obtain ⟨ios10, ch⟩ := chosen_ok (r + u) u (by omega) (by omega)
  rw [show ((r + u : Nat) : Int) = (r : Nat) + (u : Nat) by omega] at ch
  have cs := ck.sum
  rw [show ((r + u : Nat) : Int) = (r : Nat) + (u : Nat) by omega] at cs
  have s10 := st10 S I (some g9) (some (.str (Wd w))) (some (wy w)) CC none e10 e11 e12 e13 e14 (r : Nat) (u : Nat) _ (cW r u) ios10 (by omega) (by omega) cs ch ck.ris
  have s11 := st11 S I (some g9) (some (.str (Wd w))) (some (wy w)) (some (.int (r : Nat))) (some (.int (u : Nat))) CC none e10 e11 e12 e13 e14 (.lst (dI (cW r u)))
  obtain ⟨d12, s12⟩ := st12 S I (some g9) (some (.str (Wd w))) (some (wy w)) (some (.lst (dI (cW r u)))) CC none e12 e13 e14 r u hr hu (toI (cW r u)) [1] (by simp [toI]; omega) (by simp)
  rw [← dI_toI] at s12
  rw [ck.mul] at s12
  have s13 := st13 S I (some g9) (some (.str (Wd w))) (some (wy w)) (some (.lst (dI (cW r u)))) (some (.int (r : Nat))) (some (.int (u : Nat))) CC none d12 e13 e14 (mulA r u (toI (cW r u), [1])).2 (by rw [← ck.mul]; exact ck.mls) (by rw [← ck.mul]; exact ck.mll)
  generalize zI (mulA r u (toI (cW r u), [1])).2 = MM at s12 s13
  have s7' : law_1b7 _ = SRes.nx _ := s7
  rw [show cL (wds r u) (r * u + 1) = cW r u from rfl] at s7'
  generalize dI (cW r u) = LL at s7' s8 s9 s10 s11 s12 s13
  have s14 := st14 S I (some g9) (some (.str (Wd w))) (some (wy w)) (some (.lst LL)) (some (.int (r : Nat))) (some (.int (u : Nat))) CC none (some (.lst MM)) (some (.lst MM)) d12 e13 e14
  obtain ⟨d14, s15⟩ := st15 S I (some g9) (some (.str (Wd w))) (some (wy w)) (some (.lst LL)) CC none (some (.lst MM)) (some (.lst MM)) d12 e14 (r : Nat) (u : Nat)
  have ok1 := ask1_ok r u hr hu
  have len1 : (wrongs.flatMap (asks1 (r : Nat) (u : Nat))).length = 18 := rfl
  generalize wrongs.flatMap (asks1 (r : Nat) (u : Nat)) = acc at s15 ok1 len1
  obtain ⟨g16, x1, x2, c14, h1, h2, s16⟩ := st16 G9 (by decide) S I (some (.str (Wd w))) (some (.lst LL)) (some (.int (r : Nat))) (some (.int (u : Nat))) CC none (some (.lst MM)) (some (.lst MM)) d12 d14 w hw acc (by omega)
  have ok2 : ∀ a ∈ acc ++ [ask2 x1, ask2 x2, ask2 (.tup [.str "way", pt 1 0, .str "R"]), ask2 (.tup [.str "way", pt 0 1, .str ""])], AskOk a := by
    intro a ha
    rcases List.mem_append.mp ha with ha | ha
    · exact ok1 a ha
    · simp only [List.mem_cons, List.not_mem_nil, or_false] at ha
      rcases ha with rfl | rfl | rfl | rfl
      · exact ask2_ok _ (odds_bad w hw _ h1)
      · exact ask2_ok _ (odds_bad w hw _ h2)
      · exact ask2_ok _ bad10
      · exact ask2_ok _ bad01
  have s17 := st17 S I (some g16) (some (.str (Wd w))) (some (wy w)) (some (.lst LL)) (some (.int (r : Nat))) (some (.int (u : Nat))) CC none (some (.lst MM)) (some (.lst MM)) d12 c14 _ (by rw [List.length_append, len1]; exact (by decide : 18 + 4 ≤ 1000)) ok2
  subst hS hI
  have full : law_1b _ = SRes.nx _ := seq_nx s1 (seq_nx s2 (seq_nx s3 (seq_nx s4 (seq_nx s5 (seq_nx s6 (seq_nx s7' (seq_nx s8 (seq_nx s9 (seq_nx s10 (seq_nx s11 (seq_nx s12 (seq_nx s13 (seq_nx s14 (seq_nx s15 (seq_nx s16 s17)))))))))))))))
  have st : lStep (gSet 1) law_1b (.int (i : Nat)) [some (.scr ns), e1, e2, e3, e4, e5, e6, e7, e8, e9, e10, e11, e12, e13, e14, none, none, none, none, none] = law_1b [some (.scr ns), some (.int (i : Nat)), e2, e3, e4, e5, e6, e7, e8, e9, e10, e11, e12, e13, e14, none, none, none, none, none] := lst1 _ _ _ _ _ _ _ _ _ _ _ _ _ _ _ _ _ _ _ _ _ _
  rw [st, full, snx_nx]
  exact ⟨_, _, _, _, _, _, _, _, _, _, _, _, _, _, rfl⟩
theorem last_x (en : En) (F : List D → FRes) (L : List D) (ios : En) (w6 : F [.int 6, .int 6] = .ok (.lst L) ios) (h1 : atI L 18 = some (.int 58)) (h2 : dSum (.lst L) = some (.int 924)) :
    (mRet [] (mAnd (mB (eqD false) (mB dIx (mCall F [0, 1] (mCons (mC (.int 6)) (mCons (mC (.int 6)) mNil))) (mC (.int 18))) (mC (.int 58))) (mB (eqD false) (m1 dSum (mCall F [0, 1] (mCons (mC (.int 6)) (mCons (mC (.int 6)) mNil)))) (mC (.int 924))))) en = .rt (.bl true) (maskE [] en) := by
  have h1' : L[18]? = some (.int 58) := by rw [← h1]; exact (atI_nat L 18).symm
  simp [h1', h2, w6]
theorem last_ok (en : En) : ∃ e, law_2 en = .rt (.bl true) e := by
  obtain ⟨i6, w6⟩ := ways_ok 6 6 (by decide) (by decide)
  refine ⟨_, last_x en F_ways_by_boxes _ i6 w6 ?_ ?_⟩
  · have l := cW_len 6 6
    have h := last58.1
    rw [show (18 : Int) = ((18 : Nat) : Int) from rfl, atI_nat]
    have h18 : 18 < (cW 6 6).length := by omega
    rw [List.getD_eq_getElem?_getD, List.getElem?_eq_getElem h18] at h
    simp only [Option.getD_some] at h
    simp only [dI, List.getElem?_map, List.getElem?_eq_getElem h18, Option.map_some, h]
    rfl
  · rw [dI_toI, sum_zI, last58.2]
theorem law_true (ns : List Int) (h : ns.length ≤ 63) : ∃ ios, F_law [.scr ns] = .ok (.bl true) ios := by
  obtain ⟨en', q, R⟩ := loop_rng (g := gSet 1) (mb := law_1b) (fun _ en => Rnd ns en) 4 [some (.scr ns), none, none, none, none, none, none, none, none, none, none, none, none, none, none, none, none, none, none, none] (fun i en hi hR => round_ok ns i hi en hR) ⟨_, _, _, _, _, _, _, _, _, _, _, _, _, _, rfl⟩
  obtain ⟨e, l⟩ := last_ok en'
  unfold F_law
  rw [law_eq]
  unfold law_1
  generalize law_1b = B at q ⊢
  generalize law_2 = L at l ⊢
  simp [q, l]
end Im
open PySem PySem.W PyProof.Rows in
set_option maxRecDepth 100000 in
set_option maxHeartbeats 0 in
theorem PySem.Challenge.cw_pairedboards_k77_whole_boxes_below_ways_holds : PySem.Challenge.rw_pairedboards_k77_whole_boxes_below_ways.Holds := by
  w_on; o_law; k_head; (case hw => w_witness2)
  k_fill
  refine Im.head_walk (l := PySem.Challenge.rw_pairedboards_k77_whole_boxes_below_ways) (n := 63) (k := 13) (x := "script") (F := fun _ => Im.F_law) rfl (by decide) rfl ⟨rfl, by decide, by decide⟩ (fun w h Y => PySem.W.kIn_of Y) ?F ?L
  case L => exact fun _ ns h => Im.law_true ns h
  case F =>
    intro w mg fa h KX G hmg
    refine' Im.head_mk KX G hmg ?a0 ?l0 ?c0 ?k0 ?a1 ?l1 ?c1 ?k1 ?a2 ?l2 ?c2 ?k2 ?a3 ?l3 ?c3 ?k3 ?a4 ?l4 ?c4 ?k4 ?a5 ?l5 ?c5 ?k5 ?a6 ?l6 ?c6 ?k6 ?a7 ?l7 ?c7 ?k7 ?a8 ?l8 ?c8 ?k8 ?a9 ?l9 ?c9 ?k9 ?a10 ?l10 ?c10 ?k10 ?a11 ?l11 ?c11 ?k11 ?a12 ?l12 ?c12 ?k12 ?a13 ?l13 ?c13 ?k13 ?a14 ?l14 ?c14 ?k14 ?a15 ?l15 ?c15 ?k15 ?a16 ?l16 ?c16 ?k16 ?a17 ?l17 ?c17 ?k17 ?a18 ?l18 ?c18 ?k18 ?a19 ?l19 ?c19 ?k19 ?a20 ?l20 ?c20 ?k20 ?a21 ?l21 ?c21 ?k21 ?a22 ?l22 ?c22 ?k22 ?a23 ?l23 ?c23 ?k23 ?a24 ?l24 ?c24 ?k24 ?z_all ?z_bool ?z_enumerate ?z_int ?z_isinstance ?z_len ?z_list ?z_max ?z_min ?z_range ?z_repr ?z_str ?z_sum ?z_tuple ?m_MOST_PLACE ?m_MOST_SIDE ?m_MOST_STEPS ?hD ?xI ?x1 ?x2 ?x3 ?x4 ?x5 ?x6 ?x7 ?x8 ?x9 ?x10 ?x11 ?x12 ?x13 ?x14 ?x15 ?x16 ?x18 ?x17 ?g_InvalidNumber ?g1_InvalidNumber ?g2_InvalidNumber ?g30_InvalidNumber ?g31_InvalidNumber ?g32_InvalidNumber ?g33_InvalidNumber ?g34_InvalidNumber ?g35_InvalidNumber ?g4_InvalidNumber ?g5_InvalidNumber ?g6_InvalidNumber ?g7_InvalidNumber ?g8_InvalidNumber ?g9_InvalidNumber ?ga_InvalidNumber ?gb_InvalidNumber ?gc_InvalidNumber ?ge_InvalidNumber ?gd_InvalidNumber ?g_InvalidWay ?g1_InvalidWay ?g2_InvalidWay ?g30_InvalidWay ?g31_InvalidWay ?g32_InvalidWay ?g33_InvalidWay ?g34_InvalidWay ?g35_InvalidWay ?g4_InvalidWay ?g5_InvalidWay ?g6_InvalidWay ?g7_InvalidWay ?g8_InvalidWay ?g9_InvalidWay ?ga_InvalidWay ?gb_InvalidWay ?gc_InvalidWay ?ge_InvalidWay ?gd_InvalidWay ?q_InvalidNumber_InvalidNumber ?q_InvalidNumber_InvalidWay ?q_InvalidWay_InvalidNumber ?q_InvalidWay_InvalidWay
    (case a0 => k_is)
    (case l0 => k_is)
    (case c0 => k_is)
    (case k0 => k_is)
    (case a1 => k_is)
    (case l1 => k_is)
    (case c1 => k_is)
    (case k1 => k_is)
    (case a2 => k_is)
    (case l2 => k_is)
    (case c2 => k_is)
    (case k2 => k_is)
    (case a3 => k_is)
    (case l3 => k_is)
    (case c3 => k_is)
    (case k3 => k_is)
    (case a4 => k_is)
    (case l4 => k_is)
    (case c4 => k_is)
    (case k4 => k_is)
    (case a5 => k_is)
    (case l5 => k_is)
    (case c5 => k_is)
    (case k5 => k_is)
    (case a6 => k_is)
    (case l6 => k_is)
    (case c6 => k_is)
    (case k6 => k_is)
    (case a7 => k_is)
    (case l7 => k_is)
    (case c7 => k_is)
    (case k7 => k_is)
    (case a8 => k_is)
    (case l8 => k_is)
    (case c8 => k_is)
    (case k8 => k_is)
    (case a9 => k_is)
    (case l9 => k_is)
    (case c9 => k_is)
    (case k9 => k_is)
    (case a10 => k_is)
    (case l10 => k_is)
    (case c10 => k_is)
    (case k10 => k_is)
    (case a11 => k_is)
    (case l11 => k_is)
    (case c11 => k_is)
    (case k11 => k_is)
    (case a12 => k_is)
    (case l12 => k_is)
    (case c12 => k_is)
    (case k12 => k_is)
    (case a13 => k_is)
    (case l13 => k_is)
    (case c13 => k_is)
    (case k13 => k_is)
    (case a14 => k_is)
    (case l14 => k_is)
    (case c14 => k_is)
    (case k14 => k_is)
    (case a15 => k_is)
    (case l15 => k_is)
    (case c15 => k_is)
    (case k15 => k_is)
    (case a16 => k_is)
    (case l16 => k_is)
    (case c16 => k_is)
    (case k16 => k_is)
    (case a17 => k_is)
    (case l17 => k_is)
    (case c17 => k_is)
    (case k17 => k_is)
    (case a18 => k_is)
    (case l18 => k_is)
    (case c18 => k_is)
    (case k18 => k_is)
    (case a19 => k_is)
    (case l19 => k_is)
    (case c19 => k_is)
    (case k19 => k_is)
    (case a20 => k_is)
    (case l20 => k_is)
    (case c20 => k_is)
    (case k20 => k_is)
    (case a21 => k_is)
    (case l21 => k_is)
    (case c21 => k_is)
    (case k21 => k_is)
    (case a22 => k_is)
    (case l22 => k_is)
    (case c22 => k_is)
    (case k22 => k_is)
    (case a23 => k_is)
    (case l23 => k_is)
    (case c23 => k_is)
    (case k23 => k_is)
    (case a24 => k_is)
    (case l24 => k_is)
    (case c24 => k_is)
    (case k24 => k_is)
    (case z_all => k_is)
    (case z_bool => k_is)
    (case z_enumerate => k_is)
    (case z_int => k_is)
    (case z_isinstance => k_is)
    (case z_len => k_is)
    (case z_list => k_is)
    (case z_max => k_is)
    (case z_min => k_is)
    (case z_range => k_is)
    (case z_repr => k_is)
    (case z_str => k_is)
    (case z_sum => k_is)
    (case z_tuple => k_is)
    (case m_MOST_PLACE => k_is)
    (case m_MOST_SIDE => k_is)
    (case m_MOST_STEPS => k_is)
    (case hD => k_is)
    (case xI => k_is)
    (case x1 => k_is)
    (case x2 => k_is)
    (case x3 => k_is)
    (case x4 => rfl)
    (case x5 => k_is)
    (case x6 => rfl)
    (case x7 => first | rfl | decide +kernel)
    (case x8 => k_is)
    (case x9 => k_is)
    (case x10 => k_is)
    (case x11 => k_is)
    (case x12 => first | rfl | decide +kernel)
    (case x13 => k_is)
    (case x14 => k_is)
    (case x15 => k_is)
    (case x16 => k_is)
    (case x18 => k_is)
    (case x17 => k_is)
    (case g_InvalidNumber => k_is)
    (case g1_InvalidNumber => k_is)
    (case g2_InvalidNumber => first | rfl | decide +kernel)
    (case g30_InvalidNumber => k_is)
    (case g31_InvalidNumber => k_is)
    (case g32_InvalidNumber => k_is)
    (case g33_InvalidNumber => k_is)
    (case g34_InvalidNumber => k_is)
    (case g35_InvalidNumber => k_is)
    (case g4_InvalidNumber => k_is)
    (case g5_InvalidNumber => k_is)
    (case g6_InvalidNumber => k_is)
    (case g7_InvalidNumber => first | k_is | rfl)
    (case g8_InvalidNumber => first | k_is | rfl)
    (case g9_InvalidNumber => k_is)
    (case ga_InvalidNumber => k_is)
    (case gb_InvalidNumber => k_is)
    (case gc_InvalidNumber => k_is)
    (case ge_InvalidNumber => first | k_is | rfl)
    (case gd_InvalidNumber => first | k_is | rfl)
    (case g_InvalidWay => k_is)
    (case g1_InvalidWay => k_is)
    (case g2_InvalidWay => first | rfl | decide +kernel)
    (case g30_InvalidWay => k_is)
    (case g31_InvalidWay => k_is)
    (case g32_InvalidWay => k_is)
    (case g33_InvalidWay => k_is)
    (case g34_InvalidWay => k_is)
    (case g35_InvalidWay => k_is)
    (case g4_InvalidWay => k_is)
    (case g5_InvalidWay => k_is)
    (case g6_InvalidWay => k_is)
    (case g7_InvalidWay => first | k_is | rfl)
    (case g8_InvalidWay => first | k_is | rfl)
    (case g9_InvalidWay => k_is)
    (case ga_InvalidWay => k_is)
    (case gb_InvalidWay => k_is)
    (case gc_InvalidWay => k_is)
    (case ge_InvalidWay => first | k_is | rfl)
    (case gd_InvalidWay => first | k_is | rfl)
    (case q_InvalidNumber_InvalidNumber => first | k_is | rfl | decide +kernel)
    (case q_InvalidNumber_InvalidWay => first | k_is | rfl | decide +kernel)
    (case q_InvalidWay_InvalidNumber => first | k_is | rfl | decide +kernel)
    (case q_InvalidWay_InvalidWay => first | k_is | rfl | decide +kernel)
