import PyProof.Rows.All
import HandS.ForMost
import HandS.ForExc
import HandS.Wide
import HandS.Lambda
import HandS.TupAny
import HandS.TupMul
import HandS.Deep
import HandS.SortInts
import HandS.More
import HandS.Style
import HandS.Zip
import HandS.Defaults
import KE.GoesEnumKw
import KE.GoesEnum
import KE.GoesMore
import PyProof.ReprRoads
import HandS.Dict
import HandS.Small
import HandS.ExcOwn
import HandS.TryOnly
import HandS.HeadHook1
import HandS.HeadWalk
import HandS.HeadHook4
import PyProof.Rows.StrJoinMade
import Flt.Len
import KE.KStateDown
import HandS.Head0
import HandS.Head1
import HandS.Head2
import HandS.HeadEnd
import HandS.HeadHook2
import HandS.HeadHook3
import PySem.Challenge.RW_anysequence_k47_modes_that_come_again
set_option Elab.async false
set_option linter.all false
set_option maxRecDepth 100000
section
set_option Elab.async false
set_option linter.all false
set_option autoImplicit false
set_option maxRecDepth 100000
/-! Data as trees: what slots hold, seen without addresses; who owns what is mutable. -/
namespace PD
open PySem PySem.Spec L2

/-- values as trees; fls: the script, a list that nobody writes -/
inductive D where
  | non | bl (b : Bool) | int (i : Int) | str (x : Str)
  | tup (xs : List D) | lst (xs : List D) | dic (kvs : List (Key × D)) | fls (xs : List D)
  deriving Inhabited

mutual
def D.beq : D → D → Bool
  | .non, .non => true
  | .bl a, .bl b => a == b
  | .int a, .int b => a == b
  | .str a, .str b => decide (a = b)
  | .tup a, .tup b => beqL a b
  | .lst a, .lst b => beqL a b
  | .dic a, .dic b => beqK a b
  | .fls a, .fls b => beqL a b
  | _, _ => false
def beqL : List D → List D → Bool
  | [], [] => true
  | a :: r, b :: s => D.beq a b && beqL r s
  | _, _ => false
def beqK : List (Key × D) → List (Key × D) → Bool
  | [], [] => true
  | (k, a) :: r, (j, b) :: s => decide (k = j) && (D.beq a b && beqK r s)
  | _, _ => false
end

mutual
theorem D.beq_eq : ∀ a b : D, D.beq a b = true ↔ a = b
  | .non, b => by cases b <;> simp [D.beq]
  | .bl x, b => by cases b <;> simp [D.beq]
  | .int x, b => by cases b <;> simp [D.beq]
  | .str x, b => by cases b <;> simp [D.beq]
  | .tup x, b => by cases b <;> simp [D.beq, beqL_eq x]
  | .lst x, b => by cases b <;> simp [D.beq, beqL_eq x]
  | .dic x, b => by cases b <;> simp [D.beq, beqK_eq x]
  | .fls x, b => by cases b <;> simp [D.beq, beqL_eq x]
theorem beqL_eq : ∀ a b : List D, beqL a b = true ↔ a = b
  | [], b => by cases b <;> simp [beqL]
  | x :: r, b => by
    cases b with
    | nil => simp [beqL]
    | cons y s => simp [beqL, D.beq_eq x y, beqL_eq r s]
theorem beqK_eq : ∀ a b : List (Key × D), beqK a b = true ↔ a = b
  | [], b => by cases b <;> simp [beqK]
  | (k, x) :: r, b => by
    cases b with
    | nil => simp [beqK]
    | cons y s =>
      obtain ⟨j, y⟩ := y
      simp [beqK, D.beq_eq x y, beqK_eq r s, and_assoc]
end
instance : DecidableEq D := fun a b =>
  if h : D.beq a b = true then isTrue ((D.beq_eq a b).mp h) else isFalse fun e => h ((D.beq_eq a b).mpr e)

mutual
/-- nothing in it can be written -/
def D.imm : D → Bool
  | .tup xs => immL xs
  | .lst _ => false
  | .dic _ => false
  | _ => true
def immL : List D → Bool
  | [] => true
  | x :: r => D.imm x && immL r
end
theorem immL_iff : ∀ {xs : List D}, immL xs = true ↔ ∀ x ∈ xs, x.imm = true
  | [] => by simp [immL]
  | x :: r => by simp [immL, immL_iff (xs := r)]

abbrev FP := Addr → Prop
def Disj (F G : FP) : Prop := ∀ a, F a → ¬ G a
theorem Disj.symm {F G : FP} (h : Disj F G) : Disj G F := fun a g f => h a f g

/-- what may be written -/
def MutO : HO → Bool
  | .lst _ => true | .dK _ => true | .dT _ => true | .set _ _ => true | .ins _ _ _ => true | .ext _ => true | .xd _ => true | .tbl _ => true | .own _ => true | _ => false

/-- lists and dicts: what slots own -/
def OwnO : HO → Bool
  | .lst _ => true | .dK _ => true | _ => false
/-- all but the tables of code objects -/
def NT : HO → Bool
  | .tbl _ => false | _ => true
theorem OwnO.mut {o : HO} (h : OwnO o = true) : MutO o = true := by cases o <;> simp [OwnO] at h <;> rfl
theorem OwnO.nt {o : HO} (h : OwnO o = true) : NT o = true := by cases o <;> simp [OwnO] at h <;> rfl
theorem nt_imm {o : HO} (h : MutO o = false) : NT o = true := by cases o <;> simp [MutO] at h <;> rfl
theorem own_nt {H : Hp} {a : Addr} {o : HO} (h : ∃ o, H a = some o ∧ OwnO o = true) (e : H a = some o) : NT o = true := by
  obtain ⟨o', e', h⟩ := h
  rw [e] at e'; cases e'
  exact OwnO.nt h
/-- the tables of code objects that grow, with the name that each tells -/
class Tbs where
  T : List (Addr × Str)
/-- tables may grow, in the right way -/
def TB [Tbs] (H H' : Hp) : Prop := LamX.Tabs Tbs.T H → LamX.Tabs Tbs.T H'
theorem TB.refl [Tbs] (H : Hp) : TB H H := id
theorem TB.trans [Tbs] {H H1 H2 : Hp} (a : TB H H1) (b : TB H1 H2) : TB H H2 := fun z => b (a z)
theorem TB.ext [Tbs] {H H' : Hp} (k : ∀ b o, H b = some o → H' b = some o) : TB H H' := fun z => z.ext k
theorem TB.but [Tbs] {H H' : Hp} {a : Addr} {o : HO} (h : H a = some o) (hm : OwnO o = true) (k : ∀ b x, H b = some x → b ≠ a → H' b = some x) : TB H H' := by
  have na : ∀ b x, H b = some x → OwnO x = false → b ≠ a := fun b x e n z => by rw [z, h] at e; cases e; rw [hm] at n; cases n
  intro z p hp
  obtain ⟨ps, h1, h2, h3⟩ := z p hp
  refine ⟨ps, k _ _ h1 (na _ _ h1 rfl), h2, fun pos cv hc => ?_⟩
  obtain ⟨c, e1, e2⟩ := h3 pos cv hc
  exact ⟨c, e1, k _ _ e2 (na _ _ e2 rfl)⟩
/-- nothing there, or a table -/
def Fre (H : Hp) (a : Addr) : Prop := ∀ o, H a = some o → NT o = false
theorem Fre.of {H : Hp} {a : Addr} (h : H a = none) : Fre H a := fun o e => by rw [h] at e; cases e
/-- all that was tracked is as it was, tables have grown -/
structure Sm [Tbs] (H H' : Hp) : Prop where
  k : ∀ a o, H a = some o → NT o = true → H' a = some o
  tb : TB H H'
theorem Sm.refl [Tbs] (H : Hp) : Sm H H := ⟨fun _ _ h _ => h, TB.refl H⟩
theorem Sm.trans [Tbs] {H H1 H2 : Hp} (a : Sm H H1) (b : Sm H1 H2) : Sm H H2 := ⟨fun x o h n => b.k x o (a.k x o h n) n, a.tb.trans b.tb⟩
theorem Sm.of [Tbs] {H H' : Hp} (k : ∀ b o, H b = some o → H' b = some o) : Sm H H' := ⟨fun x o h _ => k x o h, TB.ext k⟩
theorem Sm.new [Tbs] {H : Hp} {p : Addr} {o : HO} (h : H p = none) : Sm H (upd H p o) := .of fun b x e => by
  rw [upd_ne (ne_of_none e h)]
  exact e

/-- a list that nobody writes -/
def FzL (K : PySem.W.Frag) (H : Hp) (a : Addr) (xs : List V) : Prop :=
  (∃ o, H a = some (.frz o (.lst xs))) ∨
    ∃ (o : Obj) (its : Array Value) (n : Nat), K.lookup a = some o ∧ o.cls = .type "list" ∧ o.dict = none ∧ o.data = .seq its n ∧ its.size ≤ sizeLine ∧ Vals xs its.toList
theorem FzL.sq {K : PySem.W.Frag} {H : Hp} {a : Addr} {xs : List V} (h : FzL K H a xs) : SqL K H a xs := by
  rcases h with ⟨o, h⟩ | h
  · exact .inl (.inr ⟨o, h⟩)
  · exact .inr h

mutual
/-- v is d in H; F: the addresses of what is mutable in it -/
inductive Rep (K : PySem.W.Frag) (H : Hp) : V → D → FP → Prop
  | non {F} (e : ∀ a, ¬ F a) : Rep K H .non .non F
  | bl {F} (b) (e : ∀ a, ¬ F a) : Rep K H (.bl b) (.bl b) F
  | int {F} (i) (e : ∀ a, ¬ F a) : Rep K H (.int i) (.int i) F
  | str {F} (x) (e : ∀ a, ¬ F a) : Rep K H (.str x) (.str x) F
  | tup {a vs ds F} (h : SqT K H a vs) (hl : vs.length ≤ sizeLine) (r : RepL K H vs ds F) : Rep K H (.ref a) (.tup ds) F
  | lst {a vs ds F G} (h : H a = some (.lst vs)) (hl : vs.length ≤ sizeLine) (r : RepL K H vs ds G) (n : ¬ G a) (e : ∀ x, F x ↔ (x = a ∨ G x)) : Rep K H (.ref a) (.lst ds) F
  | dic {a kvs ds F G} (h : H a = some (.dK kvs)) (r : RepK K H kvs ds G) (n : ¬ G a) (e : ∀ x, F x ↔ (x = a ∨ G x)) : Rep K H (.ref a) (.dic ds) F
  | fls {a vs ds F} (h : FzL K H a vs) (hl : vs.length ≤ sizeLine) (r : RepL K H vs ds F) (e : ∀ a, ¬ F a) : Rep K H (.ref a) (.fls ds) F
inductive RepL (K : PySem.W.Frag) (H : Hp) : List V → List D → FP → Prop
  | nil {F} (e : ∀ a, ¬ F a) : RepL K H [] [] F
  | cons {v vs d ds F F1 F2} (r : Rep K H v d F1) (s : RepL K H vs ds F2) (n : Disj F1 F2) (e : ∀ x, F x ↔ (F1 x ∨ F2 x)) : RepL K H (v :: vs) (d :: ds) F
inductive RepK (K : PySem.W.Frag) (H : Hp) : List (Key × V) → List (Key × D) → FP → Prop
  | nil {F} (e : ∀ a, ¬ F a) : RepK K H [] [] F
  | cons {k v vs d ds F F1 F2} (r : Rep K H v d F1) (s : RepK K H vs ds F2) (n : Disj F1 F2) (e : ∀ x, F x ↔ (F1 x ∨ F2 x)) : RepK K H ((k, v) :: vs) ((k, d) :: ds) F
end

section
variable {K : PySem.W.Frag} {H H' : Hp}
theorem Rep.congr {v d} {F G : FP} (r : Rep K H v d F) (h : ∀ a, G a ↔ F a) : Rep K H v d G := by
  have e : G = F := funext fun a => propext (h a)
  rw [e]; exact r
theorem RepL.congr {v d} {F G : FP} (r : RepL K H v d F) (h : ∀ a, G a ↔ F a) : RepL K H v d G := by
  have e : G = F := funext fun a => propext (h a)
  rw [e]; exact r
theorem SqT.keep {a vs} (h : SqT K H a vs) (k : ∀ a o, H a = some o → MutO o = false → H' a = some o) : SqT K H' a vs := by
  rcases h with (h | ⟨o, h⟩) | h
  · exact .inl (.inl (k _ _ h rfl))
  · exact .inl (.inr ⟨o, k _ _ h rfl⟩)
  · exact .inr h
theorem FzL.keep {a vs} (h : FzL K H a vs) (k : ∀ a o, H a = some o → MutO o = false → H' a = some o) : FzL K H' a vs := by
  rcases h with ⟨o, h⟩ | h
  · exact .inl ⟨o, k _ _ h rfl⟩
  · exact .inr h
mutual
theorem Rep.keep : ∀ {v d} {F : FP}, Rep K H v d F → (∀ a o, F a → H a = some o → H' a = some o) → (∀ a o, H a = some o → MutO o = false → H' a = some o) → Rep K H' v d F
  | _, _, _, .non e, _, _ => .non e
  | _, _, _, .bl b e, _, _ => .bl b e
  | _, _, _, .int b e, _, _ => .int b e
  | _, _, _, .str b e, _, _ => .str b e
  | _, _, _, .tup h hl r, kf, ki => .tup (SqT.keep h ki) hl (RepL.keep r kf ki)
  | _, _, _, .lst h hl r n e, kf, ki => .lst (kf _ _ ((e _).mpr (.inl rfl)) h) hl (RepL.keep r (fun a o g => kf a o ((e _).mpr (.inr g))) ki) n e
  | _, _, _, .dic h r n e, kf, ki => .dic (kf _ _ ((e _).mpr (.inl rfl)) h) (RepK.keep r (fun a o g => kf a o ((e _).mpr (.inr g))) ki) n e
  | _, _, _, .fls h hl r e, kf, ki => .fls (FzL.keep h ki) hl (RepL.keep r kf ki) e
theorem RepL.keep : ∀ {v d} {F : FP}, RepL K H v d F → (∀ a o, F a → H a = some o → H' a = some o) → (∀ a o, H a = some o → MutO o = false → H' a = some o) → RepL K H' v d F
  | _, _, _, .nil e, _, _ => .nil e
  | _, _, _, .cons r s n e, kf, ki => .cons (Rep.keep r (fun a o g => kf a o ((e _).mpr (.inl g))) ki) (RepL.keep s (fun a o g => kf a o ((e _).mpr (.inr g))) ki) n e
theorem RepK.keep : ∀ {v d} {F : FP}, RepK K H v d F → (∀ a o, F a → H a = some o → H' a = some o) → (∀ a o, H a = some o → MutO o = false → H' a = some o) → RepK K H' v d F
  | _, _, _, .nil e, _, _ => .nil e
  | _, _, _, .cons r s n e, kf, ki => .cons (Rep.keep r (fun a o g => kf a o ((e _).mpr (.inl g))) ki) (RepK.keep s (fun a o g => kf a o ((e _).mpr (.inr g))) ki) n e
end
mutual
theorem Rep.dom : ∀ {v d} {F : FP}, Rep K H v d F → ∀ a, F a → ∃ o, H a = some o ∧ OwnO o = true
  | _, _, _, .non e, a, f => (e a f).elim
  | _, _, _, .bl b e, a, f => (e a f).elim
  | _, _, _, .int b e, a, f => (e a f).elim
  | _, _, _, .str b e, a, f => (e a f).elim
  | _, _, _, .tup h hl r, a, f => RepL.dom r a f
  | _, _, _, .lst h hl r n e, a, f => ((e a).mp f).elim (fun z => ⟨_, z ▸ h, rfl⟩) fun g => RepL.dom r a g
  | _, _, _, .dic h r n e, a, f => ((e a).mp f).elim (fun z => ⟨_, z ▸ h, rfl⟩) fun g => RepK.dom r a g
  | _, _, _, .fls h hl r e, a, f => (e a f).elim
theorem RepL.dom : ∀ {v d} {F : FP}, RepL K H v d F → ∀ a, F a → ∃ o, H a = some o ∧ OwnO o = true
  | _, _, _, .nil e, a, f => (e a f).elim
  | _, _, _, .cons r s n e, a, f => ((e a).mp f).elim (fun g => Rep.dom r a g) fun g => RepL.dom s a g
theorem RepK.dom : ∀ {v d} {F : FP}, RepK K H v d F → ∀ a, F a → ∃ o, H a = some o ∧ OwnO o = true
  | _, _, _, .nil e, a, f => (e a f).elim
  | _, _, _, .cons r s n e, a, f => ((e a).mp f).elim (fun g => Rep.dom r a g) fun g => RepK.dom s a g
end
theorem Rep.same [Tbs] {v d} {F : FP} (r : Rep K H v d F) (k : Sm H H') : Rep K H' v d F := r.keep (fun a o f h => k.k a o h (own_nt (r.dom a f) h)) fun a o h m => k.k a o h (nt_imm m)
theorem RepL.same [Tbs] {v d} {F : FP} (r : RepL K H v d F) (k : Sm H H') : RepL K H' v d F := r.keep (fun a o f h => k.k a o h (own_nt (r.dom a f) h)) fun a o h m => k.k a o h (nt_imm m)
theorem RepK.same [Tbs] {v d} {F : FP} (r : RepK K H v d F) (k : Sm H H') : RepK K H' v d F := r.keep (fun a o f h => k.k a o h (own_nt (r.dom a f) h)) fun a o h m => k.k a o h (nt_imm m)
mutual
/-- what cannot be written has no footprint -/
theorem Rep.imm : ∀ {v d} {F : FP}, Rep K H v d F → d.imm = true → ∀ a, ¬ F a
  | _, _, _, .non e, _ => e
  | _, _, _, .bl b e, _ => e
  | _, _, _, .int b e, _ => e
  | _, _, _, .str b e, _ => e
  | _, _, _, .tup h hl r, i => RepL.imm r (by simpa [D.imm] using i)
  | _, _, _, .lst h hl r n e, i => by simp [D.imm] at i
  | _, _, _, .dic h r n e, i => by simp [D.imm] at i
  | _, _, _, .fls h hl r e, _ => e
theorem RepL.imm : ∀ {v d} {F : FP}, RepL K H v d F → immL d = true → ∀ a, ¬ F a
  | _, _, _, .nil e, _ => e
  | _, _, _, .cons r s n e, i => fun a f => by
    simp [immL] at i
    rcases (e a).mp f with g | g
    · exact Rep.imm r i.1 a g
    · exact RepL.imm s i.2 a g
end
theorem RepL.length : ∀ {vs ds} {F : FP}, RepL K H vs ds F → vs.length = ds.length
  | _, _, _, .nil _ => rfl
  | _, _, _, .cons _ s _ _ => by simp [RepL.length s]
theorem RepL.get : ∀ {vs ds} {F : FP} {i : Nat} {d : D}, RepL K H vs ds F → ds[i]? = some d → ∃ v G, vs[i]? = some v ∧ Rep K H v d G ∧ ∀ a, G a → F a
  | _, _, _, _, _, .nil _, h => by simp at h
  | _, _, _, 0, _, .cons (v := v) r _ _ e, h => by
    simp at h; subst h
    exact ⟨v, _, rfl, r, fun a g => (e a).mpr (.inl g)⟩
  | _, _, _, i + 1, _, .cons r s _ e, h => by
    obtain ⟨v, G, h1, h2, h3⟩ := RepL.get s (i := i) (by simpa using h)
    exact ⟨v, G, by simpa using h1, h2, fun a g => (e a).mpr (.inr (h3 a g))⟩
theorem RepL.getV {vs ds} {F : FP} {i : Nat} {v : V} (r : RepL K H vs ds F) (h : vs[i]? = some v) : ∃ d G, ds[i]? = some d ∧ Rep K H v d G ∧ ∀ a, G a → F a := by
  have hl := r.length
  have hi : i < ds.length := by
    have := (List.getElem?_eq_some_iff.mp h).1; omega
  obtain ⟨v', G, h1, h2, h3⟩ := r.get (i := i) (d := ds[i]) (List.getElem?_eq_getElem hi)
  rw [h] at h1; cases h1
  exact ⟨_, G, List.getElem?_eq_getElem hi, h2, h3⟩
theorem RepL.append : ∀ {vs ds us es} {F G E : FP}, RepL K H vs ds F → RepL K H us es G → Disj F G → (∀ a, E a ↔ (F a ∨ G a)) → RepL K H (vs ++ us) (ds ++ es) E
  | _, _, _, _, _, _, _, .nil e, s, _, h => s.congr fun a => by rw [h]; simp [e]
  | _, _, _, _, _, _, _, .cons (F1 := F1) (F2 := F2) r t n e, s, dj, h => by
    refine .cons r (RepL.append (E := fun a => F2 a ∨ _) t s (fun a f => dj a ((e a).mpr (.inr f))) fun a => Iff.rfl) (fun a f g => ?_) fun a => ?_
    · rcases g with g | g
      · exact n a f g
      · exact dj a ((e a).mpr (.inl f)) g
    · rw [h, e, or_assoc]
/-- a part of such a list -/
theorem RepL.sub : ∀ {vs ds} {F : FP}, RepL K H vs ds F → ∀ n : Nat, (∃ G1 G2, RepL K H (vs.take n) (ds.take n) G1 ∧ RepL K H (vs.drop n) (ds.drop n) G2 ∧ Disj G1 G2 ∧ ∀ a, F a ↔ (G1 a ∨ G2 a))
  | _, _, F, .nil e, n => ⟨fun _ => False, fun _ => False, by simpa using RepL.nil (fun _ z => z), by simpa using RepL.nil (fun _ z => z), fun _ z => z.elim, fun a => by simp [e]⟩
  | _, _, F, .cons (F1 := F1) (F2 := F2) r s d e, 0 => ⟨fun _ => False, F, by simpa using RepL.nil (fun _ z => z), .cons r s d e, fun _ z => z.elim, fun a => by simp⟩
  | _, _, F, .cons (F1 := F1) (F2 := F2) r s d e, n + 1 => by
    obtain ⟨G1, G2, r1, r2, dj, h⟩ := RepL.sub s n
    refine ⟨fun a => F1 a ∨ G1 a, G2, ?_, ?_, ?_, ?_⟩
    · exact .cons r r1 (fun a f g => d a f ((h a).mpr (.inl g))) fun _ => Iff.rfl
    · exact r2
    · rintro a (f | f) g
      · exact d a f ((h a).mpr (.inr g))
      · exact dj a f g
    · intro a
      rw [e, h, or_assoc]
end
end PD
end
section
set_option Elab.async false
set_option linter.all false
set_option autoImplicit false
set_option maxRecDepth 100000
/-! Slots, how a heap goes on, what an expression answers. -/
namespace PD
open PySem PySem.Spec L2

variable [Tbs]
omit [Tbs] in
abbrev Rho := List (Option D)

section
variable {K : PySem.W.Frag} {H H' H1 H2 : Hp}
omit [Tbs] in
/-- the slots: what is told of them, and whose the mutable things are -/
inductive RepS0 (K : PySem.W.Frag) (H : Hp) : St → Rho → FP → Prop
  | nil {F} (e : ∀ a, ¬ F a) : RepS0 K H [] [] F
  | hole {x σ ρ F} (s : RepS0 K H σ ρ F) : RepS0 K H (x :: σ) (none :: ρ) F
  | cons {v d σ ρ F F1 F2} (r : Rep K H v d F1) (s : RepS0 K H σ ρ F2) (n : Disj F1 F2) (e : ∀ x, F x ↔ (F1 x ∨ F2 x)) : RepS0 K H (some v :: σ) (some d :: ρ) F

theorem RepS0.congr {σ ρ} {F G : FP} (r : RepS0 K H σ ρ F) (h : ∀ a, G a ↔ F a) : RepS0 K H σ ρ G := by
  have e : G = F := funext fun a => propext (h a)
  rw [e]; exact r
theorem RepS0.keep : ∀ {v d} {F : FP}, RepS0 K H v d F → (∀ a o, F a → H a = some o → H' a = some o) → (∀ a o, H a = some o → MutO o = false → H' a = some o) → RepS0 K H' v d F
  | _, _, _, .nil e, _, _ => .nil e
  | _, _, _, .hole s, kf, ki => .hole (RepS0.keep s kf ki)
  | _, _, _, .cons r s n e, kf, ki => .cons (Rep.keep r (fun a o g => kf a o ((e _).mpr (.inl g))) ki) (RepS0.keep s (fun a o g => kf a o ((e _).mpr (.inr g))) ki) n e
theorem RepS0.dom : ∀ {v d} {F : FP}, RepS0 K H v d F → ∀ a, F a → ∃ o, H a = some o ∧ OwnO o = true
  | _, _, _, .nil e, a, f => (e a f).elim
  | _, _, _, .hole s, a, f => RepS0.dom s a f
  | _, _, _, .cons r s n e, a, f => ((e a).mp f).elim (fun g => Rep.dom r a g) fun g => RepS0.dom s a g
theorem RepS0.length : ∀ {v d} {F : FP}, RepS0 K H v d F → v.length = d.length
  | _, _, _, .nil e => rfl
  | _, _, _, .hole s => by simp [RepS0.length s]
  | _, _, _, .cons r s n e => by simp [RepS0.length s]
/-- what a slot holds, taken out -/
theorem RepS0.take : ∀ {σ ρ} {F : FP} {i : Nat} {d : D}, RepS0 K H σ ρ F → ρ[i]? = some (some d) →
    ∃ v Fi F', σ[i]? = some (some v) ∧ Rep K H v d Fi ∧ RepS0 K H σ (ρ.set i none) F' ∧ Disj Fi F' ∧ ∀ a, F a ↔ (Fi a ∨ F' a)
  | _, _, _, _, _, .nil _, h => by simp at h
  | _, _, _, 0, _, .hole _, h => by simp at h
  | _, _, _, i + 1, _, .hole s, h => by
    obtain ⟨v, Fi, F', h1, h2, h3, h4, h5⟩ := RepS0.take s (i := i) (by simpa using h)
    exact ⟨v, Fi, F', by simpa using h1, h2, .hole h3, h4, h5⟩
  | _, _, _, 0, _, .cons (v := v) r s n e, h => by
    simp at h; subst h
    exact ⟨v, _, _, rfl, r, .hole s, n, e⟩
  | _, _, _, i + 1, _, .cons (F1 := F1) (F2 := F2) r s n e, h => by
    obtain ⟨v, Fi, F', h1, h2, h3, h4, h5⟩ := RepS0.take s (i := i) (by simpa using h)
    refine ⟨v, Fi, fun a => F1 a ∨ F' a, by simpa using h1, h2, .cons r h3 (fun a f g => n a f ((h5 a).mpr (.inr g))) fun _ => Iff.rfl, ?_, ?_⟩
    · rintro a f (g | g)
      · exact n a g ((h5 a).mpr (.inl f))
      · exact h4 a f g
    · intro a; rw [e, h5]
      constructor
      · rintro (x | x | x)
        · exact .inr (.inl x)
        · exact .inl x
        · exact .inr (.inr x)
      · rintro (x | x | x)
        · exact .inr (.inl x)
        · exact .inl x
        · exact .inr (.inr x)
theorem RepS0.get {σ ρ} {F : FP} {i : Nat} {d : D} (r : RepS0 K H σ ρ F) (h : ρ[i]? = some (some d)) : ∃ v Fi, σ[i]? = some (some v) ∧ Rep K H v d Fi ∧ ∀ a, Fi a → F a := by
  obtain ⟨v, Fi, F', h1, h2, _, _, h5⟩ := r.take h
  exact ⟨v, Fi, h1, h2, fun a f => (h5 a).mpr (.inl f)⟩
/-- a slot forgotten, whatever is in it -/
theorem RepS0.drop : ∀ {σ ρ} {F : FP} (i : Nat) (x : Option V), RepS0 K H σ ρ F → ∃ F', RepS0 K H (σ.set i x) (ρ.set i none) F' ∧ ∀ a, F' a → F a
  | _, _, F, _, _, .nil e => ⟨F, .nil e, fun _ f => f⟩
  | _, _, F, 0, _, .hole s => ⟨F, .hole s, fun _ f => f⟩
  | _, _, _, i + 1, x, .hole s => by
    obtain ⟨F', h1, h2⟩ := RepS0.drop i x s
    exact ⟨F', .hole h1, h2⟩
  | _, _, _, 0, _, .cons r s n e => ⟨_, .hole s, fun a f => (e a).mpr (.inr f)⟩
  | _, _, _, i + 1, x, .cons (F1 := F1) r s n e => by
    obtain ⟨F', h1, h2⟩ := RepS0.drop i x s
    refine ⟨fun a => F1 a ∨ F' a, .cons r h1 (fun a f g => n a f (h2 a g)) fun _ => Iff.rfl, fun a => ?_⟩
    rintro (f | f)
    · exact (e a).mpr (.inl f)
    · exact (e a).mpr (.inr (h2 a f))
/-- put into a slot that holds nothing that is known -/
theorem RepS0.fill : ∀ {σ ρ} {F G : FP} {i : Nat} {v : V} {d : D}, RepS0 K H σ ρ F → ρ[i]? = some none → σ[i]? = some (some v) → Rep K H v d G → Disj G F →
    RepS0 K H σ (ρ.set i (some d)) (fun a => G a ∨ F a)
  | _, _, _, _, _, _, _, .nil _, h, _, _, _ => by simp at h
  | _, _, _, _, 0, _, _, .hole s, _, hv, r, dj => by
    simp at hv; subst hv
    exact .cons r s dj fun _ => Iff.rfl
  | _, _, _, _, i + 1, _, _, .hole s, h, hv, r, dj => .hole (RepS0.fill s (by simpa using h) (by simpa using hv) r dj)
  | _, _, _, _, 0, _, _, .cons _ _ _ _, h, _, _, _ => by simp at h
  | _, _, _, _, i + 1, _, _, .cons (F1 := F1) (F2 := F2) r s n e, h, hv, q, dj => by
    have h1 := RepS0.fill s (i := i) (by simpa using h) (by simpa using hv) q fun a g f => dj a g ((e a).mpr (.inr f))
    refine .cons r h1 ?_ ?_
    · rintro a f (g | g)
      · exact dj a g ((e a).mpr (.inl f))
      · exact n a f g
    · intro a; rw [e]
      constructor
      · rintro (x | x | x)
        · exact .inr (.inl x)
        · exact .inl x
        · exact .inr (.inr x)
      · rintro (x | x | x)
        · exact .inr (.inl x)
        · exact .inl x
        · exact .inr (.inr x)
/-- stored into a slot -/
theorem RepS0.store {σ ρ} {F G : FP} {i : Nat} {v : V} {d : D} (s : RepS0 K H σ ρ F) (r : Rep K H v d G) (dj : Disj G F) :
    ∃ F', RepS0 K H (σ.set i (some v)) (ρ.set i (some d)) F' ∧ ∀ a, F' a → (G a ∨ F a) := by
  obtain ⟨F', h1, h2⟩ := s.drop i (some v)
  by_cases hi : i < ρ.length
  · have hl := s.length
    have h3 := h1.fill (i := i) (v := v) (d := d) (G := G) (by simp [hi]) (by simp [hl, hi]) r fun a g f => dj a g (h2 a f)
    rw [List.set_set] at h3
    refine ⟨_, h3, fun a => ?_⟩
    rintro (g | f)
    · exact .inl g
    · exact .inr (h2 a f)
  · have hl := s.length
    rw [List.set_eq_of_length_le (by omega), List.set_eq_of_length_le (by omega)] at h1 ⊢
    exact ⟨F', h1, fun a f => .inr (h2 a f)⟩

/-- .. with the tables of code objects as they should be -/
structure RepS (K : PySem.W.Frag) (H : Hp) (σ : St) (ρ : Rho) (F : FP) : Prop where
  r : RepS0 K H σ ρ F
  tb : LamX.Tabs Tbs.T H
theorem RepS.keep {v d} {F : FP} (s : RepS K H v d F) (a : ∀ a o, F a → H a = some o → H' a = some o) (b : ∀ a o, H a = some o → MutO o = false → H' a = some o) (tb : TB H H') : RepS K H' v d F := ⟨s.r.keep a b, tb s.tb⟩
theorem RepS.dom {v d} {F : FP} (s : RepS K H v d F) : ∀ a, F a → ∃ o, H a = some o ∧ OwnO o = true := s.r.dom
theorem RepS.length {v d} {F : FP} (s : RepS K H v d F) : v.length = d.length := s.r.length
theorem RepS.same {v d} {F : FP} (s : RepS K H v d F) (k : Sm H H') : RepS K H' v d F := s.keep (fun a o f h => k.k a o h (own_nt (s.dom a f) h)) (fun a o h m => k.k a o h (nt_imm m)) k.tb
theorem RepS.take {σ ρ} {F : FP} {i : Nat} {d : D} (s : RepS K H σ ρ F) (e : ρ[i]? = some (some d)) :
    ∃ v Fi F', σ[i]? = some (some v) ∧ Rep K H v d Fi ∧ RepS K H σ (ρ.set i none) F' ∧ Disj Fi F' ∧ ∀ a, F a ↔ (Fi a ∨ F' a) := by
  obtain ⟨v, Fi, F', h1, h2, h3, h4, h5⟩ := s.r.take e
  exact ⟨v, Fi, F', h1, h2, ⟨h3, s.tb⟩, h4, h5⟩
theorem RepS.get {σ ρ} {F : FP} {i : Nat} {d : D} (s : RepS K H σ ρ F) (h : ρ[i]? = some (some d)) : ∃ v Fi, σ[i]? = some (some v) ∧ Rep K H v d Fi ∧ ∀ a, Fi a → F a := s.r.get h
theorem RepS.drop {σ ρ} {F : FP} (i : Nat) (x : Option V) (s : RepS K H σ ρ F) : ∃ F', RepS K H (σ.set i x) (ρ.set i none) F' ∧ ∀ a, F' a → F a := by
  obtain ⟨F', h1, h2⟩ := s.r.drop i x
  exact ⟨F', ⟨h1, s.tb⟩, h2⟩
theorem RepS.fill {σ ρ} {F G : FP} {i : Nat} {v : V} {d : D} (s : RepS K H σ ρ F) (e : ρ[i]? = some none) (hv : σ[i]? = some (some v)) (r : Rep K H v d G) (dj : Disj G F) : RepS K H σ (ρ.set i (some d)) (fun a => G a ∨ F a) :=
  ⟨s.r.fill e hv r dj, s.tb⟩
theorem RepS.store {σ ρ} {F G : FP} {i : Nat} {v : V} {d : D} (s : RepS K H σ ρ F) (r : Rep K H v d G) (dj : Disj G F) :
    ∃ F', RepS K H (σ.set i (some v)) (ρ.set i (some d)) F' ∧ ∀ a, F' a → (G a ∨ F a) := by
  obtain ⟨F', h1, h2⟩ := s.r.store (i := i) r dj
  exact ⟨F', ⟨h1, s.tb⟩, h2⟩

/-- from H, whose mutable things in hand are F, to H', where they are F' -/
structure Fr (H : Hp) (F : FP) (H' : Hp) (F' : FP) : Prop where
  out : ∀ a o, H a = some o → NT o = true → ¬ F a → H' a = some o
  imm : ∀ a o, H a = some o → MutO o = false → H' a = some o
  new : ∀ a, F' a → F a ∨ Fre H a
  tb : TB H H'
theorem Fr.refl (H : Hp) (F : FP) : Fr H F H F := ⟨fun _ _ h _ _ => h, fun _ _ h _ => h, fun _ f => .inl f, TB.refl H⟩
theorem Fr.less {F F' G' : FP} (h : Fr H F H' F') (k : ∀ a, G' a → F' a) : Fr H F H' G' := ⟨h.out, h.imm, fun a g => h.new a (k a g), h.tb⟩
theorem Fr.more {F F' G : FP} (h : Fr H F H' F') (k : ∀ a, F a → G a) : Fr H G H' F' := ⟨fun a o e t n => h.out a o e t fun f => n (k a f), h.imm, fun a f => (h.new a f).elim (fun z => .inl (k a z)) .inr, h.tb⟩
theorem Fr.of_same {F F' : FP} (k : Sm H H') (n : ∀ a, F' a → F a ∨ H a = none) : Fr H F H' F' := ⟨fun a o h t _ => k.k a o h t, fun a o h m => k.k a o h (nt_imm m), fun a f => (n a f).imp id Fre.of, k.tb⟩
theorem Fr.trans {F F1 F2 : FP} (a : Fr H F H1 F1) (b : Fr H1 F1 H2 F2) : Fr H F H2 F2 where
  out := fun x o h t n => b.out x o (a.out x o h t n) t fun f => by
    rcases a.new x f with g | g
    · exact n g
    · have := g _ h
      rw [t] at this; cases this
  imm := fun x o h n => b.imm x o (a.imm x o h n) n
  new := fun x f => by
    rcases b.new x f with g | g
    · exact a.new x g
    · by_cases hx : F x
      · exact .inl hx
      · refine .inr fun o q => ?_
        cases ho : NT o with
        | false => rfl
        | true => rw [← ho]; exact g _ (a.out x o q ho hx)
  tb := a.tb.trans b.tb
/-- what is in hand elsewhere goes along -/
theorem Fr.wide {F F1 G : FP} (a : Fr H F H1 F1) (g : ∀ x, G x → ¬ Fre H x) : Fr H (fun x => F x ∨ G x) H1 (fun x => F1 x ∨ G x) where
  out := fun x o h t n => a.out x o h t fun f => n (.inl f)
  imm := a.imm
  new := fun x f => by
    rcases f with f | f
    · exact (a.new x f).elim (fun z => .inl (.inl z)) .inr
    · exact .inl (.inr f)
  tb := a.tb
/-- other things in hand stay as they are, and apart -/
theorem Fr.rep {F F1 G : FP} {v d} (a : Fr H F H1 F1) (r : Rep K H v d G) (dj : Disj G F) : Rep K H1 v d G :=
  r.keep (fun x o g h => a.out x o h (own_nt (r.dom x g) h) (dj x g)) a.imm
theorem Fr.repL {F F1 G : FP} {v d} (a : Fr H F H1 F1) (r : RepL K H v d G) (dj : Disj G F) : RepL K H1 v d G :=
  r.keep (fun x o g h => a.out x o h (own_nt (r.dom x g) h) (dj x g)) a.imm
theorem Fr.repS {F F1 G : FP} {v d} (a : Fr H F H1 F1) (r : RepS K H v d G) (dj : Disj G F) : RepS K H1 v d G :=
  r.keep (fun x o g h => a.out x o h (own_nt (r.dom x g) h) (dj x g)) a.imm a.tb
theorem Fr.apart {F F1 G : FP} (a : Fr H F H1 F1) (g : ∀ x, G x → ¬ Fre H x) (dj : Disj G F) : Disj G F1 := fun x gx fx => by
  rcases a.new x fx with f | f
  · exact dj x gx f
  · exact g x gx f
theorem dom_ne {F : FP} (h : ∀ a, F a → ∃ o, H a = some o ∧ OwnO o = true) : ∀ a, F a → ¬ Fre H a := fun a f n => by
  obtain ⟨o, e, h'⟩ := h a f
  have := n _ e
  rw [OwnO.nt h'] at this; cases this
theorem Sm.fr {F : FP} (k : Sm H H') : Fr H F H' F := .of_same k fun _ f => .inl f
end

omit [Tbs] in
/-- what an expression answers: a thing of its own; what a slot holds; a part of what some slot holds -/
inductive Res where
  | own (d : D) | var (i : Nat) | bor (d : D)
omit [Tbs] in
/-- its end: an answer, the slots behind it, whether nothing was written; or an exception of a class -/
inductive Ans where
  | ok (r : Res) (ρ : Rho) (p : Bool)
  | exc (c : Value) (ρ : Rho)
omit [Tbs] in
abbrev Ev := Rho → Option Ans

omit [Tbs] in
def Res.rd (ρ : Rho) : Res → Option D
  | .own d => some d
  | .bor d => some d
  | .var i => (ρ[i]?).join
omit [Tbs] in
def RepR (K : PySem.W.Frag) (H : Hp) (σ : St) (r : Res) (v : V) (Fd : FP) : Prop :=
  match r with
  | .own d => Rep K H v d Fd
  | .var i => σ[i]? = some (some v) ∧ ∀ a, ¬ Fd a
  | .bor d => (∃ G, Rep K H v d G) ∧ ∀ a, ¬ Fd a
omit [Tbs] in
def orF (F G : FP) : FP := fun a => F a ∨ G a
structure PostE (K : PySem.W.Frag) (σ : St) (H : Hp) (F : FP) (r : Res) (ρ' : Rho) (p : Bool) (v : V) (H' : Hp) (F' Fd : FP) : Prop where
  s : RepS K H' σ ρ' F'
  r : RepR K H' σ r v Fd
  dj : Disj Fd F'
  fr : Fr H F H' (orF F' Fd)
  pu : p = true → Sm H H'
structure PostX (K : PySem.W.Frag) (σ : St) (H : Hp) (F : FP) (ρ' : Rho) (H' : Hp) (F' : FP) : Prop where
  s : RepS K H' σ ρ' F'
  fr : Fr H F H' F'
def FinE (K : PySem.W.Frag) (W : WX) (σ : St) (H : Hp) (F : FP) (Q : VK) : Ans → Prop
  | .ok r ρ' p => ∀ v H' F' Fd, PostE K σ H F r ρ' p v H' F' Fd → Q v H'
  | .exc c ρ' => ∀ H' F', PostX K σ H F ρ' H' F' → W c none σ H'
def wpE (K : PySem.W.Frag) (W : WX) (f : Ev) : TE := fun σ H Q => ∃ ρ F a, RepS K H σ ρ F ∧ f ρ = some a ∧ FinE K W σ H F Q a
/-- THE JUDGEMENT of an expression -/
def DE (X : Cx) (W : WX) (e : Expr) (f : Ev) : Prop := PE X e (wpE X.K W f)
theorem PE.imp {X : Cx} {e : Expr} {t t' : TE} (h : PE X e t) (k : ∀ σ H Q, t' σ H Q → t σ H Q) : PE X e t' :=
  ⟨fun pins s σ H Q I q => h.run pins s σ H Q I (k σ H Q q)⟩

omit [Tbs] in
/-- one behind the other -/
def Ev.bind (f : Ev) (k : Res → Rho → Bool → Option Ans) : Ev := fun ρ =>
  match f ρ with
  | some (.ok r ρ' p) => k r ρ' p
  | some (.exc c ρ') => some (.exc c ρ')
  | none => none
theorem bindE {K : PySem.W.Frag} {W : WX} {f : Ev} {k : Res → Rho → Bool → Option Ans} {σ : St} {H : Hp} {ρ : Rho} {F : FP} {a : Ans} {Q : VK}
    (s : RepS K H σ ρ F) (e : f.bind k ρ = some a) (hx : ∀ c ρ', a = .exc c ρ' → ∀ H' F', PostX K σ H F ρ' H' F' → W c none σ H')
    (hk : ∀ r ρ1 p v H1 F1 Fd, k r ρ1 p = some a → PostE K σ H F r ρ1 p v H1 F1 Fd → Q v H1) : wpE K W f σ H Q := by
  unfold Ev.bind at e
  cases q : f ρ with
  | none => rw [q] at e; cases e
  | some b =>
    rw [q] at e
    refine ⟨ρ, F, b, s, q, ?_⟩
    cases b with
    | ok r ρ' p => exact fun v H' F' Fd h => hk r ρ' p v H' F' Fd e h
    | exc c ρ' =>
      cases e
      exact fun H' F' h => hx c ρ' rfl H' F' h
theorem FinE.exc {K : PySem.W.Frag} {W : WX} {σ : St} {H : Hp} {F : FP} {Q : VK} {a : Ans} (h : FinE K W σ H F Q a) : ∀ c ρ', a = .exc c ρ' → ∀ H' F', PostX K σ H F ρ' H' F' → W c none σ H' := by
  rintro c ρ' rfl
  exact h
/-- the slots' part is in hand and more (Fd) behind a first answer -/
theorem PostE.next {K : PySem.W.Frag} {σ : St} {H H1 H2 : Hp} {F F1 Fd F2 : FP} {r : Res} {ρ1 ρ2 : Rho} {p : Bool} {v : V} (P : PostE K σ H F r ρ1 p v H1 F1 Fd) (h : PostX K σ H1 F1 ρ2 H2 F2) : PostX K σ H F ρ2 H2 F2 := by
  refine ⟨h.s, ?_⟩
  have a : Fr H F H1 F1 := P.fr.less fun a f => .inl f
  exact a.trans h.fr
theorem RepR.dom {K : PySem.W.Frag} {H : Hp} {σ : St} {r : Res} {v : V} {Fd : FP} (h : RepR K H σ r v Fd) : ∀ a, Fd a → ¬ Fre H a := by
  cases r with
  | own d => exact dom_ne (Rep.dom h)
  | var i => exact fun a f => (h.2 a f).elim
  | bor d => exact fun a f => (h.2 a f).elim
/-- an answer is as good behind a further step -/
theorem RepR.step {K : PySem.W.Frag} {H H' : Hp} {σ : St} {r : Res} {v : V} {Fd F F' : FP} (h : RepR K H σ r v Fd) (fr : Fr H F H' F') (dj : Disj Fd F) (hb : (∃ d, r = .bor d) → Sm H H') : RepR K H' σ r v Fd := by
  cases r with
  | own d => exact fr.rep h dj
  | var i => exact h
  | bor d =>
    obtain ⟨⟨G, g⟩, n⟩ := h
    exact ⟨⟨G, g.same (hb ⟨d, rfl⟩)⟩, n⟩
theorem PostE.fr1 {K : PySem.W.Frag} {σ : St} {H H1 : Hp} {F F1 Fd : FP} {r : Res} {ρ1 : Rho} {p : Bool} {v : V} (P : PostE K σ H F r ρ1 p v H1 F1 Fd) : Fr H F H1 F1 := P.fr.less fun a f => .inl f
/-- what is read of an answer -/
theorem RepR.rd {K : PySem.W.Frag} {H : Hp} {σ : St} {ρ : Rho} {r : Res} {v : V} {F Fd : FP} {d : D} (h : RepR K H σ r v Fd) (s : RepS K H σ ρ F) (e : r.rd ρ = some d) : ∃ G, Rep K H v d G ∧ ∀ a, G a → (F a ∨ Fd a) ∨ ∃ d, r = .bor d := by
  cases r with
  | own d' =>
    cases e
    exact ⟨Fd, h, fun a f => .inl (.inr f)⟩
  | var i =>
    have e' : ρ[i]? = some (some d) := by
      simp only [Res.rd] at e
      cases q : ρ[i]? with
      | none => rw [q] at e; cases e
      | some x => rw [q] at e; simp [Option.join] at e; rw [e]
    obtain ⟨v', Fi, h1, h2, h3⟩ := s.get e'
    rw [h.1] at h1
    cases h1
    exact ⟨Fi, h2, fun a f => .inl (.inl (h3 a f))⟩
  | bor d' =>
    cases e
    obtain ⟨⟨G, g⟩, _⟩ := h
    exact ⟨G, g, fun a _ => .inr ⟨_, rfl⟩⟩
omit [Tbs] in
def Res.isBor : Res → Bool
  | .bor _ => true
  | _ => false
end PD
end
section
set_option Elab.async false
set_option linter.all false
set_option autoImplicit false
set_option maxRecDepth 100000
/-! Expressions: names, constants, argument lists, operators. -/
namespace PD
open PySem PySem.Spec L2

variable [Tbs]
omit [Tbs] in
/-- one behind the other; x: how an exception is told -/
def bnd {β : Type} (x : Value → Rho → β) (f : Ev) (k : Res → Rho → Bool → Option β) : Rho → Option β := fun ρ =>
  match f ρ with
  | some (.ok r ρ' p) => k r ρ' p
  | some (.exc c ρ') => some (x c ρ')
  | none => none
theorem bndE {β : Type} {x : Value → Rho → β} {K : PySem.W.Frag} {W : WX} {f : Ev} {k : Res → Rho → Bool → Option β} {σ : St} {H : Hp} {ρ : Rho} {F : FP} {a : β} {Q : VK}
    (s : RepS K H σ ρ F) (e : bnd x f k ρ = some a) (hx : ∀ c ρ', a = x c ρ' → ∀ H' F', PostX K σ H F ρ' H' F' → W c none σ H')
    (hk : ∀ r ρ1 p v H1 F1 Fd, k r ρ1 p = some a → PostE K σ H F r ρ1 p v H1 F1 Fd → Q v H1) : wpE K W f σ H Q := by
  unfold bnd at e
  cases q : f ρ with
  | none => rw [q] at e; cases e
  | some b =>
    rw [q] at e
    refine ⟨ρ, F, b, s, q, ?_⟩
    cases b with
    | ok r ρ' p => exact fun v H' F' Fd h => hk r ρ' p v H' F' Fd e h
    | exc c ρ' =>
      cases e
      exact fun H' F' h => hx c ρ' rfl H' F' h

/-! ### lists of answers -/
omit [Tbs] in
inductive AnsL where
  | ok (r : List Res) (ρ : Rho) (p : Bool)
  | exc (c : Value) (ρ : Rho)
omit [Tbs] in
abbrev EvL := Rho → Option AnsL
omit [Tbs] in
inductive RepRs (K : PySem.W.Frag) (H : Hp) (σ : St) : List Res → List V → FP → Prop
  | nil {F} (e : ∀ a, ¬ F a) : RepRs K H σ [] [] F
  | cons {r v rs vs F F1 F2} (h : RepR K H σ r v F1) (t : RepRs K H σ rs vs F2) (n : Disj F1 F2) (e : ∀ x, F x ↔ (F1 x ∨ F2 x)) : RepRs K H σ (r :: rs) (v :: vs) F
structure PostL (K : PySem.W.Frag) (σ : St) (H : Hp) (F : FP) (r : List Res) (ρ' : Rho) (p : Bool) (v : List V) (H' : Hp) (F' Fd : FP) : Prop where
  s : RepS K H' σ ρ' F'
  r : RepRs K H' σ r v Fd
  dj : Disj Fd F'
  fr : Fr H F H' (orF F' Fd)
  pu : p = true → Sm H H'
def FinL (K : PySem.W.Frag) (W : WX) (σ : St) (H : Hp) (F : FP) (Q : List V → Hp → Prop) : AnsL → Prop
  | .ok r ρ' p => ∀ v H' F' Fd, PostL K σ H F r ρ' p v H' F' Fd → Q v H'
  | .exc c ρ' => ∀ H' F', PostX K σ H F ρ' H' F' → W c none σ H'
def wpL (K : PySem.W.Frag) (W : WX) (f : EvL) : TA := fun σ H Q => ∃ ρ F a, RepS K H σ ρ F ∧ f ρ = some a ∧ FinL K W σ H F Q a
def DL (X : Cx) (W : WX) (es : List Expr) (f : EvL) : Prop := PA X es (wpL X.K W f)
theorem PA.imp {X : Cx} {e : List Expr} {t t' : TA} (h : PA X e t) (k : ∀ σ H Q, t' σ H Q → t σ H Q) : PA X e t' :=
  ⟨fun pos pins s σ H Q I q => h.run pos pins s σ H Q I (k σ H Q q)⟩
omit [Tbs] in
def bndL {β : Type} (x : Value → Rho → β) (f : EvL) (k : List Res → Rho → Bool → Option β) : Rho → Option β := fun ρ =>
  match f ρ with
  | some (.ok r ρ' p) => k r ρ' p
  | some (.exc c ρ') => some (x c ρ')
  | none => none
theorem bndLE {β : Type} {x : Value → Rho → β} {K : PySem.W.Frag} {W : WX} {f : EvL} {k : List Res → Rho → Bool → Option β} {σ : St} {H : Hp} {ρ : Rho} {F : FP} {a : β} {Q : List V → Hp → Prop}
    (s : RepS K H σ ρ F) (e : bndL x f k ρ = some a) (hx : ∀ c ρ', a = x c ρ' → ∀ H' F', PostX K σ H F ρ' H' F' → W c none σ H')
    (hk : ∀ r ρ1 p v H1 F1 Fd, k r ρ1 p = some a → PostL K σ H F r ρ1 p v H1 F1 Fd → Q v H1) : wpL K W f σ H Q := by
  unfold bndL at e
  cases q : f ρ with
  | none => rw [q] at e; cases e
  | some b =>
    rw [q] at e
    refine ⟨ρ, F, b, s, q, ?_⟩
    cases b with
    | ok r ρ' p => exact fun v H' F' Fd h => hk r ρ' p v H' F' Fd e h
    | exc c ρ' =>
      cases e
      exact fun H' F' h => hx c ρ' rfl H' F' h
omit [Tbs] in
def dNil : EvL := fun ρ => some (.ok [] ρ true)
omit [Tbs] in
def dCons (f : Ev) (g : EvL) : EvL := bnd .exc f fun r ρ1 p1 => bndL .exc g (fun rs ρ2 p2 => if r.isBor && !p2 then none else some (.ok (r :: rs) ρ2 (p1 && p2))) ρ1
section
variable {X : Cx} {W : WX} {e : Expr} {es : List Expr} {f fa fb : Ev} {g : EvL}
theorem dl_nil : DL X W [] dNil := PA.imp pa_nil fun σ H Q h => by
  obtain ⟨ρ, F, a, s, e, h⟩ := h
  cases e
  exact h [] H F (fun _ => False) ⟨s, .nil fun _ z => z, fun _ z => z.elim, (Fr.refl H F).less fun a z => z.elim id False.elim, fun _ => Sm.refl H⟩
/-- two steps are one -/
theorem Fr.two {H H1 H2 : Hp} {F F1 Fd F2 Fe : FP} (a : Fr H F H1 (orF F1 Fd)) (b : Fr H1 F1 H2 (orF F2 Fe)) (g : ∀ x, Fd x → ¬ Fre H1 x) : Fr H F H2 (orF F2 (orF Fd Fe)) := by
  have b' := b.wide g
  refine (a.trans b').less fun x z => ?_
  rcases z with z | z | z
  · exact .inl (.inl z)
  · exact .inr z
  · exact .inl (.inr z)
theorem RepRs.dom {K : PySem.W.Frag} {H : Hp} {σ : St} : ∀ {rs vs} {F : FP}, RepRs K H σ rs vs F → ∀ a, F a → ¬ Fre H a
  | _, _, _, .nil e, a, f => (e a f).elim
  | _, _, _, .cons h t n e, a, f => ((e a).mp f).elim (fun z => h.dom a z) fun z => RepRs.dom t a z
theorem dl_cons (h : DE X W e f) (t : DL X W es g) (hs : starEach (e :: es) X.env = (false, eval e X.env) :: starEach es X.env := by rfl) : DL X W (e :: es) (dCons f g) := by
  refine PA.imp (pa_cons h t hs) fun σ H Q q => ?_
  obtain ⟨ρ, F, a, s, e, q⟩ := q
  have qx : ∀ c ρ', a = .exc c ρ' → ∀ H' F', PostX X.K σ H F ρ' H' F' → W c none σ H' := by
    rintro c ρ' rfl; exact q
  refine bndE s e qx fun r ρ1 p1 v H1 F1 Fd e1 P1 => ?_
  refine bndLE P1.s e1 (fun c ρ' ea H' F' hx => qx c ρ' ea H' F' (P1.next hx)) fun rs ρ2 p2 vs H2 F2 Fe e2 P2 => ?_
  split at e2
  · cases e2
  · rename_i hb
    cases e2
    have hb' : (∃ d, r = .bor d) → Sm H1 H2 := by
      rintro ⟨d, rfl⟩
      simp [Res.isBor] at hb
      exact P2.pu hb
    have b1 : Fr H1 F1 H2 F2 := P2.fr.less fun x z => .inl z
    have r' : RepR X.K H2 σ r v Fd := P1.r.step P2.fr P1.dj hb'
    have ap : Disj Fd (orF F2 Fe) := P2.fr.apart P1.r.dom P1.dj
    refine q (v :: vs) H2 F2 (orF Fd Fe) ⟨P2.s, .cons r' P2.r (fun x z w => ap x z (.inr w)) fun _ => Iff.rfl, ?_, Fr.two P1.fr P2.fr P1.r.dom, ?_⟩
    · rintro x (z | z) w
      · exact ap x z (.inl w)
      · exact P2.dj x z w
    · intro pp
      simp at pp
      exact (P1.pu pp.1).trans (P2.pu pp.2)

/-! ### names, constants -/
omit [Tbs] in
def dVar (i : Nat) : Ev := fun ρ => match ρ[i]? with
  | some (some d) => some (.ok (if d.imm then .own d else .var i) ρ true)
  | _ => none
omit [Tbs] in
def dC (d : D) : Ev := fun ρ => some (.ok (.own d) ρ true)
theorem de_var (i : Nat) {x : Str} {pos : Pos} (hN : X.N[i]? = some x := by rfl) (hv : Vis X.env.scope x := by first | exact Or.inl rfl | exact Or.inr (Or.inl rfl) | exact Or.inr (Or.inr rfl)) (hd : (x == ("__debug__" : Str)) = false := by decide)
    (hcd : (x == ("__classdict__" : Str)) = false := by decide) : DE X W (.Name x pos) (dVar i) := by
  refine PE.imp (pe_var hN hv hd hcd) fun σ H Q h => ?_
  obtain ⟨ρ, F, a, s, e, h⟩ := h
  unfold dVar at e
  split at e
  · rename_i d hd
    cases e
    obtain ⟨v, Fi, h1, h2, h3⟩ := s.get hd
    refine ⟨v, h1, h v H F (fun _ => False) ⟨s, ?_, fun _ z => z.elim, (Fr.refl H F).less fun a z => z.elim id False.elim, fun _ => Sm.refl H⟩⟩
    by_cases hi : d.imm = true
    · rw [if_pos hi]
      exact h2.congr fun a => ⟨False.elim, fun z => (h2.imm hi a z).elim⟩
    · rw [if_neg hi]
      exact ⟨h1, fun _ z => z⟩
  · cases e
theorem de_c {d : D} {v : V} (h : PE X e (tC v)) (r : ∀ H, Rep X.K H v d fun _ => False) : DE X W e (dC d) := by
  refine PE.imp h fun σ H Q h => ?_
  obtain ⟨ρ, F, a, s, e, h⟩ := h
  cases e
  exact h v H F (fun _ => False) ⟨s, r H, fun _ z => z.elim, (Fr.refl H F).less fun a z => z.elim id False.elim, fun _ => Sm.refl H⟩
theorem de_int {i j pos} : DE X W (.Constant (.int i) j pos) (dC (.int i)) := de_c pe_int fun _ => .int i fun _ z => z
theorem de_str {i j pos} : DE X W (.Constant (.str i) j pos) (dC (.str i)) := de_c pe_str fun _ => .str i fun _ z => z
theorem de_bl {i j pos} : DE X W (.Constant (.bool i) j pos) (dC (.bl i)) := de_c pe_bl fun _ => .bl i fun _ z => z
theorem de_non {j pos} : DE X W (.Constant .none j pos) (dC .non) := de_c pe_non fun _ => .non fun _ z => z

/-! ### operators of two things -/
omit [Tbs] in
def dOp (g : D → D → Option D) (fa fb : Ev) : Ev := bnd .exc fa fun ra ρ1 p1 => bnd .exc fb (fun rb ρ2 p2 =>
  if ra.isBor && !p2 then none else match ra.rd ρ2, rb.rd ρ2 with
    | some a, some b => (g a b).map fun d => .ok (.own d) ρ2 (p1 && p2)
    | _, _ => none) ρ1
/-- what an operator's rule makes of two things: a new thing -/
def OpS (K : PySem.W.Frag) (r : R2) (g : D → D → Option D) : Prop := ∀ v w H a b G1 G2 d (Q : VK), Rep K H v a G1 → Rep K H w b G2 → g a b = some d →
  (∀ u H' Fd, Sm H H' → (∀ x, Fd x → H x = none) → Rep K H' u d Fd → Q u H') → r v w H Q
/-- a new thing behind an answer -/
theorem PostE.made {K : PySem.W.Frag} {σ : St} {H H1 H2 : Hp} {F F1 Fd Fe : FP} {r : Res} {ρ1 : Rho} {p : Bool} {v u : V} {d : D} (P : PostE K σ H F r ρ1 p v H1 F1 Fd) (k : Sm H1 H2) (n : ∀ x, Fe x → H1 x = none) (q : Rep K H2 u d Fe) :
    PostE K σ H F (.own d) ρ1 p u H2 F1 Fe := by
  refine ⟨P.s.same k, q, fun x z w => ?_, ?_, fun h => (P.pu h).trans k⟩
  · exact dom_ne P.s.dom x w (.of (n x z))
  · exact P.fr1.trans (Fr.of_same k fun x z => z.elim .inl fun z => .inr (n x z))
theorem PostE.seq {K : PySem.W.Frag} {σ : St} {H H1 H2 : Hp} {F F1 Fd F2 Fe : FP} {r r2 : Res} {ρ1 ρ2 : Rho} {p p2 : Bool} {v v2 : V} (P : PostE K σ H F r ρ1 p v H1 F1 Fd) (P2 : PostE K σ H1 F1 r2 ρ2 p2 v2 H2 F2 Fe) : PostE K σ H F r2 ρ2 (p && p2) v2 H2 F2 Fe :=
  ⟨P2.s, P2.r, P2.dj, P.fr1.trans P2.fr, fun h => by simp at h; exact (P.pu h.1).trans (P2.pu h.2)⟩
theorem op_core {r : R2} {g : D → D → Option D} {K : PySem.W.Frag} (hs : OpS K r g) {σ : St} {H : Hp} {Q : VK} (h : wpE K W (dOp g fa fb) σ H Q) : tOp r (wpE K W fa) (wpE K W fb) σ H Q := by
  obtain ⟨ρ, F, a, s, e, q⟩ := h
  have qx := q.exc
  refine bndE s e qx fun ra ρ1 p1 v H1 F1 Fd e1 P1 => ?_
  refine bndE P1.s e1 (fun c ρ' ea H' F' hx => qx c ρ' ea H' F' (P1.next hx)) fun rb ρ2 p2 w H2 F2 Fe e2 P2 => ?_
  split at e2
  · cases e2
  · rename_i hb
    split at e2
    · rename_i a1 b1 ea eb
      cases eg : g a1 b1 with
      | none => rw [eg] at e2; cases e2
      | some d =>
        rw [eg] at e2; cases e2
        have r' : RepR K H2 σ ra v Fd := P1.r.step P2.fr P1.dj (by
          rintro ⟨d, rfl⟩
          simp [Res.isBor] at hb
          exact P2.pu hb)
        obtain ⟨G1, g1, _⟩ := r'.rd P2.s ea
        obtain ⟨G2, g2, _⟩ := P2.r.rd P2.s eb
        exact hs v w H2 a1 b1 G1 G2 d _ g1 g2 eg fun u H' Fu k n ru => q u H' F2 Fu ((P1.seq P2).made k n ru)
    · cases e2
theorem de_op {op : Operator} {r : R2} {a b : Expr} {g : D → D → Option D} {pos : Pos} (ho : OpR X (binaryOp op) r) (hs : OpS X.K r g) (ha : DE X W a fa) (hb : DE X W b fb) : DE X W (.BinOp a op b pos) (dOp g fa fb) :=
  PE.imp (pe_op ho ha hb) fun _ _ _ h => op_core hs h
theorem de_cmp {op : CmpOp} {r : R2} {a b : Expr} {g : D → D → Option D} {pos : Pos} (ho : OpR X (compareOp op) r) (hs : OpS X.K r g) (ha : DE X W a fa) (hb : DE X W b fb) (hm : behindInMarks op b = false := by first | exact nomark _ | rfl) : DE X W (.Compare a [op] [b] pos) (dOp g fa fb) :=
  PE.imp (pe_cmpR ho ha hb hm) fun _ _ _ h => op_core hs h
end
end PD
end
section
set_option Elab.async false
set_option linter.all false
set_option autoImplicit false
set_option maxRecDepth 100000
/-! What operators and built-ins do to trees. -/
namespace PD
open PySem PySem.Spec L2
variable [Tbs]
section
variable {K : PySem.W.Frag} {H H' : Hp}

/-! ### shapes -/
theorem Rep.int_inv {v i F} (r : Rep K H v (.int i) F) : v = .int i := by cases r; rfl
theorem Rep.bl_inv {v i F} (r : Rep K H v (.bl i) F) : v = .bl i := by cases r; rfl
theorem Rep.str_inv {v i F} (r : Rep K H v (.str i) F) : v = .str i := by cases r; rfl
theorem Rep.non_inv {v F} (r : Rep K H v .non F) : v = .non := by cases r; rfl
theorem Rep.tup_inv {v xs F} (r : Rep K H v (.tup xs) F) : ∃ a vs, v = .ref a ∧ SqT K H a vs ∧ vs.length ≤ sizeLine ∧ RepL K H vs xs F := by
  cases r with | tup h hl r => exact ⟨_, _, rfl, h, hl, r⟩
theorem Rep.lst_inv {v xs F} (r : Rep K H v (.lst xs) F) : ∃ a vs G, v = .ref a ∧ H a = some (.lst vs) ∧ vs.length ≤ sizeLine ∧ RepL K H vs xs G ∧ ¬ G a ∧ ∀ x, F x ↔ (x = a ∨ G x) := by
  cases r with | lst h hl r n e => exact ⟨_, _, _, rfl, h, hl, r, n, e⟩
theorem Rep.dic_inv {v xs F} (r : Rep K H v (.dic xs) F) : ∃ a vs G, v = .ref a ∧ H a = some (.dK vs) ∧ RepK K H vs xs G ∧ ¬ G a ∧ ∀ x, F x ↔ (x = a ∨ G x) := by
  cases r with | dic h r n e => exact ⟨_, _, _, rfl, h, r, n, e⟩
theorem Rep.fls_inv {v xs F} (r : Rep K H v (.fls xs) F) : ∃ a vs, v = .ref a ∧ FzL K H a vs ∧ vs.length ≤ sizeLine ∧ RepL K H vs xs F ∧ ∀ a, ¬ F a := by
  cases r with | fls h hl r e => exact ⟨_, _, rfl, h, hl, r, e⟩
omit [Tbs] in
/-- the items of a list, a locked list -/
def D.lis : D → Option (List D)
  | .lst xs => some xs | .fls xs => some xs | _ => none
omit [Tbs] in
/-- the items of a list, a tuple -/
def D.seq : D → Option (List D)
  | .lst xs => some xs | .fls xs => some xs | .tup xs => some xs | _ => none
theorem Rep.lis {v d xs F} (r : Rep K H v d F) (e : d.lis = some xs) : ∃ a vs G, v = .ref a ∧ SqL K H a vs ∧ vs.length ≤ sizeLine ∧ RepL K H vs xs G ∧ ∀ a, G a → F a := by
  cases d <;> simp [D.lis] at e
  · subst e
    obtain ⟨a, vs, G, h1, h2, h3, h4, h5, h6⟩ := r.lst_inv
    exact ⟨a, vs, G, h1, SqL.of h2, h3, h4, fun x g => (h6 x).mpr (.inr g)⟩
  · subst e
    obtain ⟨a, vs, h1, h2, h3, h4, h5⟩ := r.fls_inv
    exact ⟨a, vs, F, h1, h2.sq, h3, h4, fun x g => g⟩
theorem Rep.seq {v d xs F} (r : Rep K H v d F) (e : d.seq = some xs) : ∃ a vs G, v = .ref a ∧ (SqL K H a vs ∨ SqT K H a vs) ∧ vs.length ≤ sizeLine ∧ RepL K H vs xs G ∧ ∀ a, G a → F a := by
  cases d <;> simp [D.seq] at e
  · subst e
    obtain ⟨a, vs, h1, h2, h3, h4⟩ := r.tup_inv
    exact ⟨a, vs, F, h1, .inr h2, h3, h4, fun x g => g⟩
  · subst e
    obtain ⟨a, vs, G, h1, h2, h3, h4, h5, h6⟩ := r.lst_inv
    exact ⟨a, vs, G, h1, .inl (SqL.of h2), h3, h4, fun x g => (h6 x).mpr (.inr g)⟩
  · subst e
    obtain ⟨a, vs, h1, h2, h3, h4, h5⟩ := r.fls_inv
    exact ⟨a, vs, F, h1, .inl h2.sq, h3, h4, fun x g => g⟩
omit [Tbs] in
/-- a flat thing tells its value -/
def D.fv : D → Option V
  | .non => some .non | .bl b => some (.bl b) | .int i => some (.int i) | .str x => some (.str x) | _ => none
theorem Rep.fv {v d F w} (r : Rep K H v d F) (e : d.fv = some w) : v = w ∧ flatV w = true := by
  cases d <;> simp [D.fv] at e <;> subst e
  · exact ⟨r.non_inv, rfl⟩
  · exact ⟨r.bl_inv, rfl⟩
  · exact ⟨r.int_inv, rfl⟩
  · exact ⟨r.str_inv, rfl⟩
omit [Tbs] in
def fvL : List D → Option (List V)
  | [] => some []
  | d :: r => match d.fv, fvL r with
    | some v, some s => some (v :: s)
    | _, _ => none
theorem RepL.fv : ∀ {vs ds F ws}, RepL K H vs ds F → fvL ds = some ws → vs = ws ∧ ws.all flatV = true
  | _, _, _, _, .nil _, e => by simp [fvL] at e; subst e; exact ⟨rfl, rfl⟩
  | _, _, _, _, .cons (d := d) (ds := ds) r s _ _, e => by
    unfold fvL at e
    cases h1 : d.fv with
    | none => simp [h1] at e
    | some v =>
      cases h2 : fvL ds with
      | none => simp [h1, h2] at e
      | some t =>
        simp [h1, h2] at e
        subst e
        obtain ⟨e1, f1⟩ := Rep.fv r h1
        obtain ⟨e2, f2⟩ := RepL.fv s h2
        subst e1 e2
        exact ⟨rfl, by simp [f1, f2]⟩
/-- things without a footprint beside each other -/
theorem RepL.thin {vs ds F} (r : RepL K H vs ds F) (i : immL ds = true) : RepL K H vs ds fun _ => False := r.congr fun a => ⟨False.elim, fun f => r.imm i a f⟩
theorem Rep.thin {vs ds F} (r : Rep K H vs ds F) (i : ds.imm = true) : Rep K H vs ds fun _ => False := r.congr fun a => ⟨False.elim, fun f => r.imm i a f⟩
/-- a new list, tuple of things that cannot be written -/
theorem rep_newL {p vs ds F} (h : H p = none) (hl : vs.length ≤ sizeLine) (r : RepL K H vs ds F) (i : immL ds = true) : Rep K (upd H p (.lst vs)) (.ref p) (.lst ds) fun x => x = p :=
  .lst (G := fun _ => False) upd_same hl ((r.thin i).same (Sm.new h)) (fun z => z) fun x => by simp
theorem rep_newT {p vs ds F} (h : H p = none) (hl : vs.length ≤ sizeLine) (r : RepL K H vs ds F) : Rep K (upd H p (.tup vs)) (.ref p) (.tup ds) F :=
  .tup (SqT.of upd_same) hl (r.same (Sm.new h))

/-! ### numbers -/
omit [Tbs] in
def gI (p : Int → Int → Bool) (f : Int → Int → D) : D → D → Option D := fun a b => match a, b with
  | .int i, .int j => if p i j = true then some (f i j) else none
  | _, _ => none
theorem gI_inv {p f a b d} (e : gI p f a b = some d) : ∃ i j, a = .int i ∧ b = .int j ∧ p i j = true ∧ d = f i j := by
  unfold gI at e
  split at e
  · split at e
    · cases e; exact ⟨_, _, rfl, rfl, by assumption, rfl⟩
    · cases e
  · cases e
theorem opsI {r : R2} {p : Int → Int → Bool} {f : Int → Int → D} {fv : Int → Int → V} (hf : ∀ i j (H : Hp), Rep K H (fv i j) (f i j) fun _ => False) (h : ∀ i j H (Q : VK), p i j = true → Q (fv i j) H → r (.int i) (.int j) H Q) : OpS K r (gI p f) := by
  intro v w H a b G1 G2 d Q r1 r2 e q
  obtain ⟨i, j, rfl, rfl, hp, rfl⟩ := gI_inv e
  obtain rfl := r1.int_inv
  obtain rfl := r2.int_inv
  exact h i j H Q hp (q _ H _ (Sm.refl H) (fun _ z => z.elim) (hf i j H))
omit [Tbs] in
def okT : Int → Int → Bool := fun _ _ => true
omit [Tbs] in
theorem seal2 (f : Int → Int → Bool) : ∃ g : Int → Int → Bool, ∀ i j, g i j = f i j := ⟨f, fun _ _ => rfl⟩
omit [Tbs] in
/-- (kept from the kernel's hands: great numerals) -/
noncomputable def okMul : Int → Int → Bool := Classical.choose (seal2 fun i j => decide ((-(2 ^ 64) < i ∧ i < 2 ^ 64) ∨ (-(2 ^ 64) < j ∧ j < 2 ^ 64)))
omit [Tbs] in
theorem okMul_eq (i j : Int) : okMul i j = decide ((-(2 ^ 64) < i ∧ i < 2 ^ 64) ∨ (-(2 ^ 64) < j ∧ j < 2 ^ 64)) := Classical.choose_spec (seal2 _) i j
omit [Tbs] in
theorem seal1 (f : Int → Bool) : ∃ g : Int → Bool, ∀ i, g i = f i := ⟨f, fun _ => rfl⟩
omit [Tbs] in
noncomputable def smallI : Int → Bool := Classical.choose (seal1 fun i => decide (-1000000 ≤ i ∧ i ≤ 1000000))
omit [Tbs] in
theorem smallI_eq (i : Int) : smallI i = decide (-1000000 ≤ i ∧ i ≤ 1000000) := Classical.choose_spec (seal1 _) i
omit [Tbs] in
noncomputable def okDiv : Int → Int → Bool := Classical.choose (seal2 fun _ j => decide (0 < j ∧ j < 1073741824))
omit [Tbs] in
theorem okDiv_eq (i j : Int) : okDiv i j = decide (0 < j ∧ j < 1073741824) := Classical.choose_spec (seal2 _) i j
omit [Tbs] in
noncomputable def okMod : Int → Int → Bool := Classical.choose (seal2 fun _ j => decide (0 < j))
omit [Tbs] in
theorem okMod_eq (i j : Int) : okMod i j = decide (0 < j) := Classical.choose_spec (seal2 _) i j
omit [Tbs] in
def gAdd := gI okT fun i j => .int (i + j)
omit [Tbs] in
def gSub := gI okT fun i j => .int (i - j)
omit [Tbs] in
noncomputable def gMul := gI okMul fun i j => .int (i * j)
omit [Tbs] in
noncomputable def gDiv := gI okDiv fun i j => .int (i / j)
omit [Tbs] in
noncomputable def gMod := gI okMod fun i j => .int (i % j)
omit [Tbs] in
def gLt := gI okT fun i j => .bl (decide (i < j))
omit [Tbs] in
def gLe := gI okT fun i j => .bl (decide (i ≤ j))
omit [Tbs] in
def gGt := gI okT fun i j => .bl (decide (j < i))
omit [Tbs] in
def gGe := gI okT fun i j => .bl (decide (j ≤ i))
theorem ops_add : OpS K (rI0 fun i j => .int (i + j)) gAdd := opsI (fv := fun i j => .int (i + j)) (fun _ _ _ => .int _ fun _ z => z) fun i j H Q _ q => ⟨i, j, rfl, rfl, q⟩
theorem ops_sub : OpS K (rI0 fun i j => .int (i - j)) gSub := opsI (fv := fun i j => .int (i - j)) (fun _ _ _ => .int _ fun _ z => z) fun i j H Q _ q => ⟨i, j, rfl, rfl, q⟩
theorem ops_mul : OpS K (rI CMul fun i j => .int (i * j)) gMul := opsI (fv := fun i j => .int (i * j)) (fun _ _ _ => .int _ fun _ z => z) fun i j H Q hp q => ⟨i, j, rfl, rfl, by rw [okMul_eq] at hp; simpa [CMul] using hp, q⟩
theorem ops_div : OpS K (rI CDiv fun i j => .int (i / j)) gDiv := opsI (fv := fun i j => .int (i / j)) (fun _ _ _ => .int _ fun _ z => z) fun i j H Q hp q => ⟨i, j, rfl, rfl, by rw [okDiv_eq] at hp; simpa [CDiv] using hp, q⟩
theorem ops_mod : OpS K (rI (fun _ j => 0 < j) fun i j => .int (i % j)) gMod := opsI (fv := fun i j => .int (i % j)) (fun _ _ _ => .int _ fun _ z => z) fun i j H Q hp q => ⟨i, j, rfl, rfl, by rw [okMod_eq] at hp; exact of_decide_eq_true hp, q⟩
theorem ops_lt : OpS K (rI0 fun i j => .bl (decide (i < j))) gLt := opsI (fv := fun i j => .bl (decide (i < j))) (fun _ _ _ => .bl _ fun _ z => z) fun i j H Q _ q => ⟨i, j, rfl, rfl, q⟩
theorem ops_le : OpS K (rI0 fun i j => .bl (decide (i ≤ j))) gLe := opsI (fv := fun i j => .bl (decide (i ≤ j))) (fun _ _ _ => .bl _ fun _ z => z) fun i j H Q _ q => ⟨i, j, rfl, rfl, q⟩
theorem ops_gt : OpS K (rI0 fun i j => .bl (decide (j < i))) gGt := opsI (fv := fun i j => .bl (decide (j < i))) (fun _ _ _ => .bl _ fun _ z => z) fun i j H Q _ q => ⟨i, j, rfl, rfl, q⟩
theorem ops_ge : OpS K (rI0 fun i j => .bl (decide (j ≤ i))) gGe := opsI (fv := fun i j => .bl (decide (j ≤ i))) (fun _ _ _ => .bl _ fun _ z => z) fun i j H Q _ q => ⟨i, j, rfl, rfl, q⟩

/-! ### == of data -/
omit [Tbs] in
mutual
def toP : D → PyData
  | .non => .none | .bl b => .bool b | .int i => .int i | .str x => .str x
  | .tup xs => .tuple (toPL xs) | .lst xs => .list (toPL xs) | .fls xs => .list (toPL xs) | .dic _ => .dict []
def toPL : List D → List PyData
  | [] => []
  | x :: r => toP x :: toPL r
end
mutual
theorem Rep.dp : ∀ {v d F}, Rep K H v d F → (toP d).canLay0 = true → Dp K H v (toP d)
  | _, _, _, .non e, _ => by rw [toP]; exact .non
  | _, _, _, .bl b e, _ => by rw [toP]; exact .bl b
  | _, _, _, .int b e, _ => by rw [toP]; exact .int b
  | _, _, _, .str b e, _ => by rw [toP]; exact .str b
  | _, _, _, .tup h hl r, c => by rw [toP]; exact .tup h (RepL.dp r (by simpa [toP, PyData.canLay0] using c))
  | _, _, _, .lst h hl r n e, c => by rw [toP]; exact .lst (SqL.of h) (RepL.dp r (by simpa [toP, PyData.canLay0] using c))
  | _, _, _, .dic h r n e, c => by simp [toP, PyData.canLay0] at c
  | _, _, _, .fls h hl r e, c => by rw [toP]; exact .lst (FzL.sq h) (RepL.dp r (by simpa [toP, PyData.canLay0] using c))
theorem RepL.dp : ∀ {v d F}, RepL K H v d F → PyData.canLayAll0 (toPL d) = true → DpAll K H v (toPL d)
  | _, _, _, .nil e, _ => by rw [toPL]; exact .nil
  | _, _, _, .cons r s n e, c => by
    simp [toPL, PyData.canLayAll0] at c
    rw [toPL]
    exact .cons (Rep.dp r c.1) (RepL.dp s c.2)
end
omit [Tbs] in
def gEq : D → D → Option D := fun a b => if SeqAt.shaped (toP a) && SeqAt.shaped (toP b) then some (.bl (PyData.eqv (toP a) (toP b))) else none
omit [Tbs] in
def gNe : D → D → Option D := fun a b => if SeqAt.shaped (toP a) && SeqAt.shaped (toP b) then some (.bl (!PyData.eqv (toP a) (toP b))) else none
theorem shaped_lay {d : PyData} (h : SeqAt.shaped d = true) : d.canLay0 = true := by
  unfold SeqAt.shaped at h; simp at h; exact h.1
theorem ops_eq : OpS K (rEqD K) gEq := by
  intro v w H a b G1 G2 d Q r1 r2 e q
  unfold gEq at e
  split at e
  · rename_i h
    simp at h
    cases e
    exact ⟨_, _, r1.dp (shaped_lay h.1), r2.dp (shaped_lay h.2), h.1, h.2, q _ H (fun _ => False) (Sm.refl H) (fun _ z => z.elim) (.bl _ fun _ z => z)⟩
  · cases e
theorem ops_ne : OpS K (rNeD K) gNe := by
  intro v w H a b G1 G2 d Q r1 r2 e q
  unfold gNe at e
  split at e
  · rename_i h
    simp at h
    cases e
    exact ⟨_, _, r1.dp (shaped_lay h.1), r2.dp (shaped_lay h.2), h.1, h.2, q _ H (fun _ => False) (Sm.refl H) (fun _ z => z.elim) (.bl _ fun _ z => z)⟩
  · cases e

/-! ### in -/
omit [Tbs] in
def gIn (neg : Bool) : D → D → Option D := fun a b => match a.fv, b.seq.bind fvL with
  | some x, some xs => some (.bl (if neg then !inV x xs else inV x xs))
  | _, _ => none
theorem ops_in (neg : Bool) : OpS K (rIn K neg) (gIn neg) := by
  intro v w H a b G1 G2 d Q r1 r2 e q
  unfold gIn at e
  cases h1 : a.fv with
  | none => simp [h1] at e
  | some x =>
    cases h2 : b.seq with
    | none => simp [h1, h2] at e
    | some ys =>
      cases h3 : fvL ys with
      | none => simp [h1, h2, h3] at e
      | some xs =>
        simp [h1, h2, h3] at e
        subst e
        obtain ⟨rfl, f1⟩ := r1.fv h1
        obtain ⟨p, vs, G, rfl, hs, hl, rl, _⟩ := r2.seq h2
        obtain ⟨rfl, f2⟩ := rl.fv h3
        exact ⟨p, vs, rfl, hs, f1, f2, q _ H (fun _ => False) (Sm.refl H) (fun _ z => z.elim) (.bl _ fun _ z => z)⟩
omit [Tbs] in
/-- is None, by the operators' rules -/
def gIsN (neg : Bool) : D → D → Option D := fun a b => match b with
  | .non => some (.bl (if neg then !decide (a = .non) else decide (a = .non)))
  | _ => none
theorem Rep.isNon {v d F} (r : Rep K H v d F) : decide (v = V.non) = decide (d = D.non) := by
  cases r <;> simp
theorem ops_isN : OpS K (fun x y H Q => y = .non ∧ Q (.bl (decide (x = .non))) H) (gIsN false) := by
  intro v w H a b G1 G2 d Q r1 r2 e q
  unfold gIsN at e
  split at e
  · cases e
    refine ⟨r2.non_inv, ?_⟩
    rw [r1.isNon]
    exact q _ H (fun _ => False) (Sm.refl H) (fun _ z => z.elim) (.bl _ fun _ z => z)
  · cases e
theorem ops_notN : OpS K (fun x y H Q => y = .non ∧ Q (.bl (!decide (x = .non))) H) (gIsN true) := by
  intro v w H a b G1 G2 d Q r1 r2 e q
  unfold gIsN at e
  split at e
  · cases e
    refine ⟨r2.non_inv, ?_⟩
    rw [r1.isNon]
    exact q _ H (fun _ => False) (Sm.refl H) (fun _ z => z.elim) (.bl _ fun _ z => z)
  · cases e

/-! ### lists and tuples put together -/
omit [Tbs] in
def LIM : Nat := 100000
theorem lim_line {n : Nat} (h : n ≤ LIM) : n ≤ sizeLine := Nat.le_trans h (by decide)
theorem lim_lt {n : Nat} (h : n ≤ LIM) : n < sizeLine := Nat.lt_of_le_of_lt h (by decide)
omit [Tbs] in
def gCat : D → D → Option D := fun a b => match a, b with
  | .lst xs, .lst ys => if immL xs && immL ys && decide (xs.length + ys.length ≤ LIM) then some (.lst (xs ++ ys)) else none
  | _, _ => none
theorem immL_append {xs ys : List D} : immL (xs ++ ys) = (immL xs && immL ys) := by
  induction xs with
  | nil => simp [immL]
  | cons x r ih => simp [immL, ih, Bool.and_assoc]
theorem ops_cat : OpS K rCat gCat := by
  intro v w H a b G1 G2 d Q r1 r2 e q
  unfold gCat at e
  split at e
  · rename_i xs ys
    split at e
    · rename_i h
      simp at h
      cases e
      obtain ⟨a, vs, G, rfl, h1, h2, h3, h4, h5⟩ := r1.lst_inv
      obtain ⟨b, ws, G', rfl, k1, k2, k3, k4, k5⟩ := r2.lst_inv
      have l1 := h3.length
      have l2 := k3.length
      have hl : vs.length + ws.length ≤ sizeLine := lim_line (by omega)
      refine ⟨a, b, vs, ws, rfl, rfl, h1, k1, hl, fun p hp => ?_⟩
      have rr := (h3.thin h.1.1).append (E := fun _ => False) (k3.thin h.1.2) (fun _ z => z.elim) fun _ => by simp
      exact q _ _ _ (Sm.new hp) (fun x z => by rw [z]; exact hp) (rep_newL hp (by simpa using hl) rr (by rw [immL_append]; simp [h.1]))
    · cases e
  · cases e
omit [Tbs] in
def gCatT : D → D → Option D := fun a b => match a, b with
  | .tup xs, .tup ys => if immL xs && immL ys && decide (xs.length + ys.length ≤ LIM) then some (.tup (xs ++ ys)) else none
  | _, _ => none
theorem ops_catT : OpS K (rCatA K) gCatT := by
  intro v w H a b G1 G2 d Q r1 r2 e q
  unfold gCatT at e
  split at e
  · rename_i xs ys
    split at e
    · rename_i h
      simp at h
      cases e
      obtain ⟨a, vs, rfl, h1, h2, h3⟩ := r1.tup_inv
      obtain ⟨b, ws, rfl, k1, k2, k3⟩ := r2.tup_inv
      have l1 := h3.length
      have l2 := k3.length
      have hl : vs.length + ws.length ≤ sizeLine := lim_line (by omega)
      refine ⟨a, b, vs, ws, rfl, rfl, h1, k1, hl, fun e1 => ?_, fun e1 e2 => ?_, fun _ _ p hp => ?_⟩
      · subst e1
        have : xs = [] := by cases xs with | nil => rfl | cons _ _ => simp at l1
        subst this
        exact q _ H (fun _ => False) (Sm.refl H) (fun _ z => z.elim) (r2.thin (by simpa [D.imm] using h.1.2))
      · subst e2
        have : ys = [] := by cases ys with | nil => rfl | cons _ _ => simp at l2
        subst this
        exact q _ H (fun _ => False) (Sm.refl H) (fun _ z => z.elim) (by rw [List.append_nil]; exact r1.thin (by simpa [D.imm] using h.1.1))
      · have rr := (h3.thin h.1.1).append (E := fun _ => False) (k3.thin h.1.2) (fun _ z => z.elim) fun _ => by simp
        exact q _ _ _ (Sm.new hp) (fun x z => z.elim) (rep_newT hp (by simpa using hl) rr)
    · cases e
  · cases e
theorem RepL.repl {vs ds} (r : RepL K H vs ds fun _ => False) : ∀ n : Nat, RepL K H (List.replicate n vs).flatten (List.replicate n ds).flatten fun _ => False
  | 0 => .nil fun _ z => z
  | n + 1 => by
    rw [List.replicate_succ, List.replicate_succ, List.flatten_cons, List.flatten_cons]
    exact r.append (RepL.repl r n) (fun _ z => z.elim) fun _ => by simp
theorem immL_repl {ds : List D} (h : immL ds = true) : ∀ n : Nat, immL (List.replicate n ds).flatten = true
  | 0 => rfl
  | n + 1 => by rw [List.replicate_succ, List.flatten_cons, immL_append, h, immL_repl h n]; rfl
omit [Tbs] in
def gRep : D → D → Option D := fun a b => match a, b with
  | .lst xs, .int k => if immL xs && decide (-1000 ≤ k ∧ k ≤ 1000) && decide (xs.length ≤ 100) then some (.lst (List.replicate k.toNat xs).flatten) else none
  | _, _ => none
theorem ops_rep : OpS K rRep gRep := by
  intro v w H a b G1 G2 d Q r1 r2 e q
  unfold gRep at e
  split at e
  · rename_i xs k
    split at e
    · rename_i h
      simp at h
      cases e
      obtain ⟨a, vs, G, rfl, h1, h2, h3, h4, h5⟩ := r1.lst_inv
      have l1 := h3.length
      have hb : vs.length * k.toNat ≤ 100 * 1000 := Nat.mul_le_mul (by omega) (by omega)
      have hl : vs.length * k.toNat ≤ sizeLine := Nat.le_trans hb (by decide)
      obtain rfl := r2.int_inv
      refine ⟨a, k, vs, rfl, rfl, h1, by omega, by omega, hl, fun p hp => ?_⟩
      have rr := (h3.thin h.1.1).repl k.toNat
      exact q _ _ _ (Sm.new hp) (fun x z => by rw [z]; exact hp) (rep_newL hp (by simpa [Nat.mul_comm] using hl) rr (immL_repl h.1.1 _))
    · cases e
  · cases e
end
end PD
end
section
set_option Elab.async false
set_option linter.all false
set_option autoImplicit false
set_option maxRecDepth 100000
/-! Displays, subscripts, slices, calls of built-ins, dicts, tests. -/
namespace PD
open PySem PySem.Spec L2

variable [Tbs]
/-! ### an answer taken, to be kept -/
omit [Tbs] in
def takeR (ρ : Rho) : Res → Option (D × Rho)
  | .own d => some (d, ρ)
  | .var i => match ρ[i]? with
    | some (some d) => some (d, ρ.set i none)
    | _ => none
  | .bor _ => none
omit [Tbs] in
def takeRs (ρ : Rho) : List Res → Option (List D × Rho)
  | [] => some ([], ρ)
  | r :: rs => match takeR ρ r with
    | some (d, ρ1) => match takeRs ρ1 rs with
      | some (ds, ρ2) => some (d :: ds, ρ2)
      | none => none
    | none => none
section
variable {K : PySem.W.Frag} {H : Hp} {σ : St}
theorem takeR_ok {ρ ρ' : Rho} {r : Res} {v : V} {d : D} {F Fd : FP} (s : RepS K H σ ρ F) (h : RepR K H σ r v Fd) (dj : Disj Fd F) (e : takeR ρ r = some (d, ρ')) :
    ∃ F' Fe, RepS K H σ ρ' F' ∧ Rep K H v d Fe ∧ Disj Fe F' ∧ (∀ a, F' a → F a) ∧ ∀ a, Fe a → F a ∨ Fd a := by
  cases r with
  | own d' =>
    simp only [takeR, Option.some.injEq, Prod.mk.injEq] at e
    obtain ⟨rfl, rfl⟩ := e
    exact ⟨F, Fd, s, h, dj, fun _ f => f, fun _ f => .inr f⟩
  | var i =>
    simp only [takeR] at e
    split at e
    · rename_i d' hd
      simp only [Option.some.injEq, Prod.mk.injEq] at e
      obtain ⟨rfl, rfl⟩ := e
      obtain ⟨v', Fi, F', h1, h2, h3, h4, h5⟩ := s.take hd
      rw [h.1] at h1; cases h1
      exact ⟨F', Fi, h3, h2, h4, fun a f => (h5 a).mpr (.inr f), fun a f => .inl ((h5 a).mpr (.inl f))⟩
    · cases e
  | bor d' => cases e
theorem RepRs.less {ρ : Rho} {rs : List Res} {vs : List V} {F F' Fd : FP} (h : RepRs K H σ rs vs Fd) (dj : Disj Fd F) (k : ∀ a, F' a → F a) : Disj Fd F' := fun a f g => dj a f (k a g)
theorem takeRs_ok : ∀ {rs : List Res} {ρ ρ' : Rho} {vs : List V} {ds : List D} {F Fd : FP}, RepS K H σ ρ F → RepRs K H σ rs vs Fd → Disj Fd F → takeRs ρ rs = some (ds, ρ') →
    ∃ F' Fe, RepS K H σ ρ' F' ∧ RepL K H vs ds Fe ∧ Disj Fe F' ∧ (∀ a, F' a → F a) ∧ ∀ a, Fe a → F a ∨ Fd a
  | [], ρ, ρ', _, ds, F, Fd, s, .nil e0, dj, e => by
    simp only [takeRs, Option.some.injEq, Prod.mk.injEq] at e
    obtain ⟨rfl, rfl⟩ := e
    exact ⟨F, Fd, s, .nil e0, dj, fun _ f => f, fun _ f => .inr f⟩
  | r :: rs, ρ, ρ', _, ds, F, Fd, s, .cons (v := v) (vs := vs) (F1 := F1) (F2 := F2) h t n e0, dj, e => by
    simp only [takeRs] at e
    split at e
    · rename_i d ρ1 h1
      split at e
      · rename_i ds' ρ2 h2
        simp only [Option.some.injEq, Prod.mk.injEq] at e
        obtain ⟨rfl, rfl⟩ := e
        obtain ⟨G, Fe, s1, r1, dj1, k1, k2⟩ := takeR_ok s h (fun a f g => dj a ((e0 a).mpr (.inl f)) g) h1
        obtain ⟨G', Fe', s2, r2, dj2, k3, k4⟩ := takeRs_ok s1 t (fun a f g => dj a ((e0 a).mpr (.inr f)) (k1 a g)) h2
        refine ⟨G', fun a => Fe a ∨ Fe' a, s2, .cons r1 r2 ?_ fun _ => Iff.rfl, ?_, fun a g => k1 a (k3 a g), ?_⟩
        · intro a f g
          rcases k4 a g with z | z
          · exact dj1 a f z
          · rcases k2 a f with w | w
            · exact dj a ((e0 a).mpr (.inr z)) w
            · exact n a w z
        · rintro a (f | f) g
          · exact dj1 a f (k3 a g)
          · exact dj2 a f g
        · rintro a (f | f)
          · exact (k2 a f).imp id fun z => (e0 a).mpr (.inl z)
          · rcases k4 a f with z | z
            · exact .inl (k1 a z)
            · exact .inr ((e0 a).mpr (.inr z))
      · cases e
    · cases e
end

/-! ### displays -/
omit [Tbs] in
def dTup (f : EvL) : Ev := bndL .exc f fun rs ρ p => if rs.length ≤ LIM then (takeRs ρ rs).map fun z => .ok (.own (.tup z.1)) z.2 p else none
omit [Tbs] in
def dLst (f : EvL) : Ev := bndL .exc f fun rs ρ p => if rs.length ≤ LIM then (takeRs ρ rs).map fun z => .ok (.own (.lst z.1)) z.2 p else none
section
variable {X : Cx} {W : WX} {e : Expr} {es : List Expr} {f fa fb : Ev} {fl : EvL} {pos : Pos}
theorem RepRs.len {K : PySem.W.Frag} {H : Hp} {σ : St} : ∀ {rs vs} {F : FP}, RepRs K H σ rs vs F → rs.length = vs.length
  | _, _, _, .nil _ => rfl
  | _, _, _, .cons _ t _ _ => by simp [RepRs.len t]
theorem de_tup {x1} (h : DL X W es fl) : DE X W (.Tuple es x1 pos) (dTup fl) := by
  refine PE.imp (pe_tup h) fun σ H Q hq => ?_
  obtain ⟨ρ, F, a, s, e, q⟩ := hq
  refine bndLE s e q.exc fun rs ρ1 p1 vs H1 F1 Fd e1 P1 => ?_
  split at e1
  · rename_i hl
    cases et : takeRs ρ1 rs with
    | none => rw [et] at e1; cases e1
    | some z =>
      obtain ⟨ds, ρ'⟩ := z
      rw [et] at e1; cases e1
      obtain ⟨F', Fe, s2, r2, dj2, k1, k2⟩ := takeRs_ok P1.s P1.r P1.dj et
      have hv : vs.length ≤ sizeLine := lim_line (by rw [← P1.r.len]; exact hl)
      refine ⟨hv, fun p hp => ?_⟩
      have sm : Sm H1 (upd H1 p (.tup vs)) := Sm.new hp
      refine q (.ref p) _ F' Fe ⟨s2.same sm, rep_newT hp hv r2, dj2, ?_, fun z => (P1.pu z).trans sm⟩
      refine (P1.fr.trans (Fr.of_same sm fun a z => .inl z)).less fun a z => ?_
      rcases z with z | z
      · exact .inl (k1 a z)
      · exact k2 a z
  · cases e1
theorem de_lst (h : DL X W es fl) : DE X W (.List es pos) (dLst fl) := by
  refine PE.imp (pe_lst h) fun σ H Q hq => ?_
  obtain ⟨ρ, F, a, s, e, q⟩ := hq
  refine bndLE s e q.exc fun rs ρ1 p1 vs H1 F1 Fd e1 P1 => ?_
  split at e1
  · rename_i hl
    cases et : takeRs ρ1 rs with
    | none => rw [et] at e1; cases e1
    | some z =>
      obtain ⟨ds, ρ'⟩ := z
      rw [et] at e1; cases e1
      obtain ⟨F', Fe, s2, r2, dj2, k1, k2⟩ := takeRs_ok P1.s P1.r P1.dj et
      have hv : vs.length ≤ sizeLine := lim_line (by rw [← P1.r.len]; exact hl)
      refine ⟨hv, fun p hp => ?_⟩
      have sm : Sm H1 (upd H1 p (.lst vs)) := Sm.new hp
      have np : ¬ Fe p := fun z => dom_ne r2.dom p z (.of hp)
      have np' : ¬ F' p := fun z => dom_ne s2.dom p z (.of hp)
      refine q (.ref p) _ F' (fun x => x = p ∨ Fe x) ⟨s2.same sm, .lst upd_same hv (r2.same sm) np fun _ => Iff.rfl, ?_, ?_, fun z => (P1.pu z).trans sm⟩
      · rintro x (z | z) w
        · exact np' (z ▸ w)
        · exact dj2 x z w
      · have fr2 : Fr H1 (orF F1 Fd) (upd H1 p (.lst vs)) (orF F' fun x => x = p ∨ Fe x) := Fr.of_same sm fun a z => by
          rcases z with z | z | z
          · exact .inl (.inl (k1 a z))
          · exact .inr (z ▸ hp)
          · exact .inl (k2 a z)
        exact P1.fr.trans fr2
  · cases e1

/-! ### a[i] -/
omit [Tbs] in
def dIx (g : D → D → Option D) (fa fb : Ev) : Ev := bnd .exc fa fun ra ρ1 p1 => bnd .exc fb (fun rb ρ2 p2 =>
  if ra.isBor && !p2 then none else match ra.rd ρ2, rb.rd ρ2 with
    | some a, some b => (g a b).map fun d => .ok (if d.imm then .own d else .bor d) ρ2 (p1 && p2)
    | _, _ => none) ρ1
omit [Tbs] in
def IxS (K : PySem.W.Frag) (r : R2) (g : D → D → Option D) : Prop := ∀ v w H a b G1 G2 d (Q : VK), Rep K H v a G1 → Rep K H w b G2 → g a b = some d →
  (∀ u G, Rep K H u d G → Q u H) → r v w H Q
theorem ix_core {r : R2} {g : D → D → Option D} {K : PySem.W.Frag} (hs : IxS K r g) {σ : St} {H : Hp} {Q : VK} (h : wpE K W (dIx g fa fb) σ H Q) : tOp r (wpE K W fa) (wpE K W fb) σ H Q := by
  obtain ⟨ρ, F, a, s, e, q⟩ := h
  have qx := q.exc
  refine bndE s e qx fun ra ρ1 p1 v H1 F1 Fd e1 P1 => ?_
  refine bndE P1.s e1 (fun c ρ' ea H' F' hx => qx c ρ' ea H' F' (P1.next hx)) fun rb ρ2 p2 w H2 F2 Fe e2 P2 => ?_
  split at e2
  · cases e2
  · rename_i hb
    split at e2
    · rename_i a1 b1 ea eb
      cases eg : g a1 b1 with
      | none => rw [eg] at e2; cases e2
      | some d =>
        rw [eg] at e2; cases e2
        have r' : RepR K H2 σ ra v Fd := P1.r.step P2.fr P1.dj (by
          rintro ⟨d, rfl⟩
          simp [Res.isBor] at hb
          exact P2.pu hb)
        obtain ⟨G1, g1, _⟩ := r'.rd P2.s ea
        obtain ⟨G2, g2, _⟩ := P2.r.rd P2.s eb
        refine hs v w H2 a1 b1 G1 G2 d _ g1 g2 eg fun u G ru => q u H2 F2 (fun _ => False) ⟨P2.s, ?_, fun _ z => z.elim, ?_, fun h => ?_⟩
        · by_cases hi : d.imm = true
          · rw [if_pos hi]; exact ru.thin hi
          · rw [if_neg hi]; exact ⟨⟨G, ru⟩, fun _ z => z⟩
        · exact (P1.fr1.trans P2.fr1).less fun a z => z.elim id False.elim
        · simp at h; exact (P1.pu h.1).trans (P2.pu h.2)
    · cases e2
omit [Tbs] in
def gIxL : D → D → Option D := fun a b => match a.lis, b with
  | some xs, .int i => atI xs i
  | _, _ => none
omit [Tbs] in
def gIxT : D → D → Option D := fun a b => match a, b with
  | .tup xs, .int i => atI xs i
  | _, _ => none
theorem RepL.atI {K : PySem.W.Frag} {H : Hp} {vs ds F i d} (r : RepL K H vs ds F) (e : L2.atI ds i = some d) : ∃ v G, L2.atI vs i = some v ∧ Rep K H v d G := by
  unfold L2.atI at e ⊢
  have hl := r.length
  rw [hl]
  cases h : ixN ds.length i with
  | none => rw [h] at e; cases e
  | some j =>
    rw [h] at e
    obtain ⟨v, G, h1, h2, _⟩ := r.get e
    exact ⟨v, G, h1, h2⟩
theorem ixs_list {K : PySem.W.Frag} : IxS K (rIxL K) gIxL := by
  intro v w H a b G1 G2 d Q r1 r2 e q
  unfold gIxL at e
  split at e
  · rename_i xs i hx
    obtain ⟨p, vs, G, rfl, hs, hl, rl, _⟩ := r1.lis hx
    obtain rfl := r2.int_inv
    obtain ⟨v, G', h1, h2⟩ := rl.atI e
    exact ⟨p, vs, i, v, rfl, rfl, hs, h1, q v G' h2⟩
  · cases e
theorem ixs_tup {K : PySem.W.Frag} : IxS K (rIxT K) gIxT := by
  intro v w H a b G1 G2 d Q r1 r2 e q
  unfold gIxT at e
  split at e
  · rename_i xs i
    obtain ⟨p, vs, rfl, hs, hl, rl⟩ := r1.tup_inv
    obtain rfl := r2.int_inv
    obtain ⟨v, G', h1, h2⟩ := rl.atI e
    exact ⟨p, vs, i, v, rfl, rfl, hs, h1, q v G' h2⟩
  · cases e
theorem de_ixL {a b : Expr} (ha : DE X W a fa) (hb : DE X W b fb) (hs : PlainIx b := by intro _ _; rfl) : DE X W (.Subscript a b pos) (dIx gIxL fa fb) :=
  PE.imp (pe_ix ix_list ha hb hs) fun _ _ _ h => ix_core ixs_list h
theorem de_ixT {a b : Expr} (ha : DE X W a fa) (hb : DE X W b fb) (hs : PlainIx b := by intro _ _; rfl) : DE X W (.Subscript a b pos) (dIx gIxT fa fb) :=
  PE.imp (pe_ix ix_tup ha hb hs) fun _ _ _ h => ix_core ixs_tup h

/-! ### dicts -/
omit [Tbs] in
/-- the key that a thing is -/
def D.key : D → Option Key
  | .int i => some (.inl i) | .str x => some (.inr x) | _ => none
theorem Rep.key {K : PySem.W.Frag} {H : Hp} {v d k F} (r : Rep K H v d F) (e : d.key = some k) : v = kV k := by
  cases d <;> simp [D.key] at e <;> subst e
  · exact r.int_inv
  · exact r.str_inv
omit [Tbs] in
def getD (kvs : List (Key × D)) (k : Key) : Option D := (kvs.find? fun kv => decide (kv.1 = k)).map (·.2)
omit [Tbs] in
def putD (kvs : List (Key × D)) (k : Key) (v : D) : List (Key × D) :=
  if (kvs.any fun kv => decide (kv.1 = k)) = true then kvs.map (fun kv => if kv.1 = k then (kv.1, v) else kv) else kvs ++ [(k, v)]
theorem RepK.keys {K : PySem.W.Frag} {H : Hp} : ∀ {vs ds F}, RepK K H vs ds F → vs.map (·.1) = ds.map (·.1)
  | _, _, _, .nil _ => rfl
  | _, _, _, .cons _ s _ _ => by simp [RepK.keys s]
theorem RepK.length {K : PySem.W.Frag} {H : Hp} {vs ds F} (r : RepK K H vs ds F) : vs.length = ds.length := by
  have := congrArg List.length r.keys
  simpa using this
theorem RepK.get {K : PySem.W.Frag} {H : Hp} {k : Key} : ∀ {vs ds F}, RepK K H vs ds F → (getD ds k = none ∧ valV vs k = none) ∨ ∃ d v G, getD ds k = some d ∧ valV vs k = some v ∧ Rep K H v d G ∧ ∀ a, G a → F a
  | _, _, _, .nil _ => .inl ⟨rfl, rfl⟩
  | _, _, _, .cons (k := j) (v := v) (d := d) r s n e => by
    by_cases h : j = k
    · exact .inr ⟨d, v, _, by simp [getD, h], by simp [valV, h], r, fun a f => (e a).mpr (.inl f)⟩
    · rcases RepK.get s (k := k) with ⟨h1, h2⟩ | ⟨d', v', G, h1, h2, h3, h4⟩
      · exact .inl ⟨by simpa [getD, h] using h1, by simpa [valV, h] using h2⟩
      · exact .inr ⟨d', v', G, by simpa [getD, h] using h1, by simpa [valV, h] using h2, h3, fun a g => (e a).mpr (.inr (h4 a g))⟩
omit [Tbs] in
def gIxD : D → D → Option D := fun a b => match a, b.key with
  | .dic kvs, some k => getD kvs k
  | _, _ => none
theorem de_ixD {a b : Expr} (hu : X.A.units + 1 < cLine) (ha : DE X W a fa) (hb : DE X W b fb) (hs : NoSl b := by intro _ _; rfl) : DE X W (.Subscript a b pos) (dIx gIxD fa fb) := by
  refine PE.imp (pe_dget hu ha hb hs) fun σ H Q h => ?_
  refine ix_core (r := fun x y H2 Q => ∃ a v, x = .ref a ∧ DGet H2 a y (some v) ∧ Q v H2) ?_ h
  intro v w H a b G1 G2 d Q r1 r2 e q
  unfold gIxD at e
  split at e
  · rename_i kvs k hk
    obtain ⟨p, vs, G, rfl, hs, rl, _, _⟩ := r1.dic_inv
    obtain rfl := r2.key hk
    rcases rl.get (k := k) with ⟨h1, _⟩ | ⟨d', v', G', h1, h2, h3, _⟩
    · rw [h1] at e; cases e
    · rw [h1] at e; cases e
      exact ⟨p, v', rfl, h2 ▸ DGet.k hs, q v' G' h3⟩
  · cases e
omit [Tbs] in
def gInD (neg : Bool) : D → D → Option D := fun a b => match a.key, b with
  | some k, .dic kvs => some (.bl (if neg then !(getD kvs k).isSome else (getD kvs k).isSome))
  | _, _ => none
theorem ind_core {K : PySem.W.Frag} (neg : Bool) : OpS K (fun y x H2 Q => ∃ a o, x = .ref a ∧ DGet H2 a y o ∧ Q (.bl (if neg then !o.isSome else o.isSome)) H2) (gInD neg) := by
  intro v w H a b G1 G2 d Q r1 r2 e q
  unfold gInD at e
  split at e
  · rename_i k kvs hk
    cases e
    obtain ⟨p, vs, G, rfl, hs, rl, _, _⟩ := r2.dic_inv
    obtain rfl := r1.key hk
    refine ⟨p, valV vs k, rfl, DGet.k hs, ?_⟩
    have e : (valV vs k).isSome = (getD kvs k).isSome := by
      rcases rl.get (k := k) with ⟨h1, h2⟩ | ⟨d', v', G', h1, h2, h3, _⟩ <;> rw [h1, h2] <;> rfl
    rw [e]
    exact q _ H (fun _ => False) (Sm.refl H) (fun _ z => z.elim) (.bl _ fun _ z => z)
  · cases e
theorem de_inD {a b : Expr} (hu : X.A.units + 1 < cLine) (ha : DE X W a fa) (hb : DE X W b fb) (h1 : behindInMarks .In b = false := by first | rfl | exact nomark _) : DE X W (.Compare a [.In] [b] pos) (dOp (gInD false) fa fb) :=
  PE.imp (pe_cmp (pc_din hu ha hb) h1) fun _ _ _ h => op_core (ind_core false) h
theorem de_ninD {a b : Expr} (hu : X.A.units + 1 < cLine) (ha : DE X W a fa) (hb : DE X W b fb) (h1 : behindInMarks .NotIn b = false := by first | rfl | exact nomark _) : DE X W (.Compare a [.NotIn] [b] pos) (dOp (gInD true) fa fb) :=
  PE.imp (pe_cmp (pc_dnotin hu ha hb) h1) fun _ _ _ h => op_core (ind_core true) h
omit [Tbs] in
def dDic0 : Ev := fun ρ => some (.ok (.own (.dic [])) ρ true)
theorem de_dic0 : DE X W (.Dict [] [] pos) dDic0 := by
  refine PE.imp pe_dnewK fun σ H Q h => ?_
  obtain ⟨ρ, F, a, s, e, h⟩ := h
  cases e
  intro p hp
  have sm : Sm H (upd H p (.dK [])) := Sm.new hp
  exact h (.ref p) _ F (fun x => x = p) ⟨s.same sm, .dic (G := fun _ => False) upd_same (.nil fun _ z => z) (fun z => z) (fun x => by simp), fun x z w => dom_ne s.dom x w (z ▸ .of hp), Fr.of_same sm (fun a z => z.elim .inl fun z => .inr (z ▸ hp)), fun _ => sm⟩
end
end PD
end
section
set_option Elab.async false
set_option linter.all false
set_option autoImplicit false
set_option maxRecDepth 100000
/-! Slices, built-ins by name, a dict written out, tests. -/
namespace PD
open PySem PySem.Spec L2
variable [Tbs]
section
variable {X : Cx} {W : WX} {e : Expr} {es : List Expr} {f fa fb : Ev} {fl : EvL} {pos : Pos}

/-! ### slices -/
omit [Tbs] in
def partB {β : Type} (x : Value → Rho → β) (f : Option Ev) (k : Option Int → Rho → Bool → Option β) : Rho → Option β := fun ρ => match f with
  | none => k none ρ true
  | some f => bnd x f (fun r ρ' p => match r with
    | .own (.int i) => k (some i) ρ' p
    | _ => none) ρ
def wpO (K : PySem.W.Frag) (W : WX) : Option Ev → TO
  | none => tNoPart
  | some f => tPart (wpE K W f)
def DO (X : Cx) (W : WX) (e : Option Expr) (f : Option Ev) : Prop := PO X e (wpO X.K W f)
theorem do_none : DO X W none none := po_none
theorem do_some (h : DE X W e f) : DO X W (some e) (some f) := po_some h
theorem partBE {β : Type} {x : Value → Rho → β} {K : PySem.W.Frag} {W : WX} {f : Option Ev} {k : Option Int → Rho → Bool → Option β} {σ : St} {H : Hp} {ρ : Rho} {F : FP} {a : β} {Q : Option Int → Hp → Prop}
    (s : RepS K H σ ρ F) (e : partB x f k ρ = some a) (hx : ∀ c ρ', a = x c ρ' → ∀ H' F', PostX K σ H F ρ' H' F' → W c none σ H')
    (hk : ∀ o ρ1 p H1 F1, k o ρ1 p = some a → PostX K σ H F ρ1 H1 F1 → (p = true → Sm H H1) → Q o H1) : wpO K W f σ H Q := by
  cases f with
  | none => exact hk none ρ true H F e ⟨s, Fr.refl H F⟩ fun _ => Sm.refl H
  | some f =>
    refine bndE s e hx fun r ρ1 p v H1 F1 Fd e1 P1 => ?_
    split at e1
    · rename_i i
      obtain rfl := Rep.int_inv P1.r
      exact ⟨i, rfl, hk _ _ _ _ _ e1 ⟨P1.s, P1.fr1⟩ P1.pu⟩
    · cases e1
omit [Tbs] in
def dSl (g : D → Option Int → Option Int → Option D) (fe : Ev) (lo hi : Option Ev) : Ev := bnd .exc fe fun r ρ1 p1 => partB .exc lo (fun l ρ2 p2 => partB .exc hi (fun u ρ3 p3 =>
  if r.isBor && !(p2 && p3) then none else (r.rd ρ3).bind fun d => (g d l u).map fun d => .ok (.own d) ρ3 (p1 && (p2 && p3))) ρ2) ρ1
def SlS (K : PySem.W.Frag) (r : V → Option Int → Option Int → Hp → VK → Prop) (g : D → Option Int → Option Int → Option D) : Prop := ∀ v l u H a G1 d (Q : VK), Rep K H v a G1 → g a l u = some d →
  (∀ u H' Fd, Sm H H' → (∀ x, Fd x → H x = none) → Rep K H' u d Fd → Q u H') → r v l u H Q
theorem de_sl {r : V → Option Int → Option Int → Hp → VK → Prop} {g : D → Option Int → Option Int → Option D} {lo hi : Option Expr} {fl fh : Option Ev} {p2 : Pos} (hr : SlR X r) (hs : SlS X.K r g) (he : DE X W e f) (hl : DO X W lo fl) (hu : DO X W hi fh) :
    DE X W (.Subscript e (.Slice lo hi none p2) pos) (dSl g f fl fh) := by
  refine PE.imp (pe_slice hr he hl hu) fun σ H Q h => ?_
  obtain ⟨ρ, F, a, s, e, q⟩ := h
  have qx := q.exc
  refine bndE s e qx fun ra ρ1 p1 v H1 F1 Fd e1 P1 => ?_
  refine partBE P1.s e1 (fun c ρ' ea H' F' hx => qx c ρ' ea H' F' (P1.next hx)) fun l ρ2 p2 H2 F2 e2 P2 u2 => ?_
  refine partBE P2.s e2 (fun c ρ' ea H' F' hx => qx c ρ' ea H' F' (P1.next ⟨hx.s, P2.fr.trans hx.fr⟩)) fun u ρ3 p3 H3 F3 e3 P3 u3 => ?_
  split at e3
  · cases e3
  · rename_i hb
    cases ea : ra.rd ρ3 with
    | none => rw [ea] at e3; cases e3
    | some d0 =>
      rw [ea] at e3
      simp only [Option.bind_some] at e3
      cases eg : g d0 l u with
      | none => rw [eg] at e3; cases e3
      | some d =>
        rw [eg] at e3; cases e3
        have fr13 := P2.fr.trans P3.fr
        have r' : RepR X.K H3 σ ra v Fd := P1.r.step fr13 P1.dj (by
          rintro ⟨d, rfl⟩
          simp [Res.isBor] at hb
          exact (u2 hb.1).trans (u3 hb.2))
        obtain ⟨G1, g1, _⟩ := r'.rd P3.s ea
        refine hs v l u H3 d0 G1 d _ g1 eg fun w H' Fu k n ru => q w H' F3 Fu ⟨P3.s.same k, ru, fun x z w => dom_ne P3.s.dom x w (.of (n x z)), ?_, fun h => ?_⟩
        · exact (P1.fr1.trans fr13).trans (Fr.of_same k fun x z => z.elim .inl fun z => .inr (n x z))
        · simp at h
          exact (P1.pu h.1).trans ((u2 h.2.1).trans ((u3 h.2.2).trans k))
omit [Tbs] in
def cutL (xs : List D) (lo hi : Option Int) : List D := (xs.drop (HT.sIx xs.length 0 lo)).take (HT.sIx xs.length xs.length hi - HT.sIx xs.length 0 lo)
omit [Tbs] in
def gSlL : D → Option Int → Option Int → Option D := fun a l u => a.lis.bind fun xs => if immL xs then some (.lst (cutL xs l u)) else none
omit [Tbs] in
def gSlT : D → Option Int → Option Int → Option D := fun a l u => match a with
  | .tup xs => if immL xs then some (.tup (cutL xs l u)) else none
  | _ => none
theorem RepL.cut {K : PySem.W.Frag} {H : Hp} {vs ds} (r : RepL K H vs ds fun _ => False) (l u : Option Int) : RepL K H (cutV vs l u) (cutL ds l u) fun _ => False := by
  unfold cutV cutL
  rw [r.length]
  obtain ⟨G1, G2, _, r2, _, e2⟩ := r.sub (HT.sIx ds.length 0 l)
  obtain ⟨G3, G4, r3, _, _, e3⟩ := r2.sub (HT.sIx ds.length ds.length u - HT.sIx ds.length 0 l)
  exact r3.congr fun a => ⟨False.elim, fun z => (e2 a).mpr (.inr ((e3 a).mpr (.inl z)))⟩
theorem immL_sub {xs ys : List D} (h : immL xs = true) (k : ∀ y ∈ ys, y ∈ xs) : immL ys = true := immL_iff.mpr fun y hy => immL_iff.mp h y (k y hy)
theorem cutL_mem {xs : List D} {l u : Option Int} : ∀ y ∈ cutL xs l u, y ∈ xs := fun y hy => List.mem_of_mem_drop (List.mem_of_mem_take hy)
theorem sls_list {K : PySem.W.Frag} : SlS K (rSlL K) gSlL := by
  intro v l u H a G1 d Q r1 e q
  unfold gSlL at e
  cases hx : a.lis with
  | none => rw [hx] at e; cases e
  | some xs =>
    rw [hx] at e
    simp only [Option.bind_some] at e
    split at e
    · rename_i hi
      cases e
      obtain ⟨p, vs, G, rfl, hs, hl, rl, _⟩ := r1.lis hx
      refine ⟨p, vs, rfl, hs, fun b hb => ?_⟩
      have rr := (rl.thin hi).cut l u
      exact q _ _ (fun x => x = b) (Sm.new hb) (fun x z => by rw [z]; exact hb) (rep_newL hb (Nat.le_trans (cutV_length vs l u) hl) rr (immL_sub hi cutL_mem))
    · cases e
theorem sls_tup {K : PySem.W.Frag} : SlS K (rSlA K) gSlT := by
  intro v l u H a G1 d Q r1 e q
  unfold gSlT at e
  split at e
  · rename_i xs
    split at e
    · rename_i hi
      cases e
      obtain ⟨p, vs, rfl, hs, hl, rl⟩ := r1.tup_inv
      refine ⟨p, vs, rfl, hs, fun hw => ?_, fun _ b hb => ?_⟩
      · have : cutL xs l u = xs := by
          unfold cutL
          rw [← rl.length, hw.1, hw.2]
          simp [rl.length]
        rw [this] at q
        exact q _ H _ (Sm.refl H) (fun _ z => z.elim) (r1.thin (by simpa [D.imm] using hi))
      · exact q _ _ _ (Sm.new hb) (fun x z => z.elim) (rep_newT hb (Nat.le_trans (cutV_length vs l u) hl) ((rl.thin hi).cut l u))
    · cases e
  · cases e
theorem de_slL {lo hi : Option Expr} {fl fh : Option Ev} {p2 : Pos} (he : DE X W e f) (hl : DO X W lo fl) (hu : DO X W hi fh) : DE X W (.Subscript e (.Slice lo hi none p2) pos) (dSl gSlL f fl fh) := de_sl sl_list sls_list he hl hu
theorem de_slT {lo hi : Option Expr} {fl fh : Option Ev} {p2 : Pos} (he : DE X W e f) (hl : DO X W lo fl) (hu : DO X W hi fh) : DE X W (.Subscript e (.Slice lo hi none p2) pos) (dSl gSlT f fl fh) := de_sl sl_tupA sls_tup he hl hu

/-! ### an operator of one thing -/
omit [Tbs] in
def d1 (g : D → Option D) (fa : Ev) : Ev := bnd .exc fa fun ra ρ1 p1 => (ra.rd ρ1).bind fun a => (g a).map fun d => .ok (.own d) ρ1 p1
def UnS (K : PySem.W.Frag) (r : V → Hp → VK → Prop) (g : D → Option D) : Prop := ∀ v H a G1 d (Q : VK), Rep K H v a G1 → g a = some d → (∀ u H' Fd, Sm H H' → (∀ x, Fd x → H x = none) → Rep K H' u d Fd → Q u H') → r v H Q
theorem un_core {r : V → Hp → VK → Prop} {g : D → Option D} {K : PySem.W.Frag} (hs : UnS K r g) {σ : St} {H : Hp} {Q : VK} (h : wpE K W (d1 g fa) σ H Q) : wpE K W fa σ H fun x H1 => r x H1 Q := by
  obtain ⟨ρ, F, a, s, e, q⟩ := h
  refine bndE s e q.exc fun ra ρ1 p1 v H1 F1 Fd e1 P1 => ?_
  cases ea : ra.rd ρ1 with
  | none => rw [ea] at e1; cases e1
  | some d0 =>
    rw [ea] at e1
    simp only [Option.bind_some] at e1
    cases eg : g d0 with
    | none => rw [eg] at e1; cases e1
    | some d =>
      rw [eg] at e1; cases e1
      obtain ⟨G1, g1, _⟩ := P1.r.rd P1.s ea
      exact hs v H1 d0 G1 d _ g1 eg fun u H' Fu k n ru => q u H' F1 Fu (P1.made k n ru)
omit [Tbs] in
def gNeg : D → Option D := fun a => match a with
  | .int i => some (.int (-i))
  | _ => none
theorem de_neg (ha : DE X W e f) : DE X W (.UnaryOp .USub e pos) (d1 gNeg f) := by
  refine PE.imp (pe_un un_neg ha) fun σ H Q h => un_core (r := rU fun i => .int (-i)) ?_ h
  intro v H a G1 d Q r1 e q
  unfold gNeg at e
  split at e
  · cases e
    exact ⟨_, r1.int_inv, q _ H (fun _ => False) (Sm.refl H) (fun _ z => z.elim) (.int _ fun _ z => z)⟩
  · cases e
omit [Tbs] in
/-- e[::-1] of a list -/
def gRev : D → Option D := fun a => a.lis.bind fun xs => if immL xs then some (.lst xs.reverse) else none
theorem RepL.rev {K : PySem.W.Frag} {H : Hp} : ∀ {vs ds F}, RepL K H vs ds F → (∀ a, ¬ F a) → RepL K H vs.reverse ds.reverse fun _ => False
  | _, _, _, .nil _, _ => .nil fun _ z => z
  | _, _, _, .cons (F1 := F1) (F2 := F2) r s n e, h => by
    rw [List.reverse_cons, List.reverse_cons]
    have s' := RepL.rev s fun a f => h a ((e a).mpr (.inr f))
    have r' : RepL K H [_] [_] fun _ => False := .cons (r.congr fun a => ⟨False.elim, fun z => h a ((e a).mpr (.inl z))⟩) (.nil fun _ z => z) (fun _ z => z.elim) fun _ => by simp
    exact s'.append r' (fun _ z => z.elim) fun _ => by simp
theorem de_rev {k1 : Nat} {p1 p2 p3 : Pos} (ha : DE X W e f) : DE X W (.Subscript e (.Slice none none (some (.UnaryOp .USub (.Constant (.int 1) k1 p1) p2)) p3) pos) (d1 gRev f) := by
  refine PE.imp (pe_revL ha) fun σ H Q h => un_core (r := fun x H1 Q => ∃ a xs, x = .ref a ∧ SqL X.K H1 a xs ∧ ∀ p, H1 p = none → Q (.ref p) (upd H1 p (.lst xs.reverse))) ?_ h
  intro v H a G1 d Q r1 e q
  unfold gRev at e
  cases hx : a.lis with
  | none => rw [hx] at e; cases e
  | some xs =>
    rw [hx] at e
    simp only [Option.bind_some] at e
    split at e
    · rename_i hi
      cases e
      obtain ⟨p, vs, G, rfl, hs, hl, rl, _⟩ := r1.lis hx
      refine ⟨p, vs, rfl, hs, fun b hb => ?_⟩
      exact q _ _ (fun x => x = b) (Sm.new hb) (fun x z => by rw [z]; exact hb) (rep_newL hb (by simpa using hl) (rl.rev (rl.imm hi)) (immL_sub hi fun y hy => by simpa using hy))
    · cases e

/-! ### f(..), f a built-in -/
omit [Tbs] in
def rdL (ρ : Rho) : List Res → Option (List D)
  | [] => some []
  | r :: rs => match r.rd ρ, rdL ρ rs with
    | some d, some ds => some (d :: ds)
    | _, _ => none
omit [Tbs] in
/-- each a thing that can be read -/
abbrev Rds (K : PySem.W.Frag) (H : Hp) : List V → List D → Prop := Paired fun v d => ∃ G, Rep K H v d G
theorem RepRs.rds {K : PySem.W.Frag} {H : Hp} {σ : St} {ρ : Rho} {F : FP} (s : RepS K H σ ρ F) : ∀ {rs vs Fd ds}, RepRs K H σ rs vs Fd → rdL ρ rs = some ds → Rds K H vs ds
  | _, _, _, _, .nil _, e => by simp [rdL] at e; subst e; exact .nil
  | r :: rs, _, _, _, .cons h t _ _, e => by
    simp only [rdL] at e
    split at e
    · rename_i d ds h1 h2
      cases e
      obtain ⟨G, g, _⟩ := h.rd s h1
      exact .cons ⟨G, g⟩ (RepRs.rds s t h2)
    · cases e
omit [Tbs] in
def dCB (g : List D → Option D) (f : EvL) : Ev := bndL .exc f fun rs ρ p => (rdL ρ rs).bind fun ds => (g ds).map fun d => .ok (.own d) ρ p
def CallS (K : PySem.W.Frag) (r : List V → Hp → VK → Prop) (g : List D → Option D) : Prop := ∀ vs H ds d (Q : VK), Rds K H vs ds → g ds = some d → (∀ u H' Fd, Sm H H' → (∀ x, Fd x → H x = none) → Rep K H' u d Fd → Q u H') → r vs H Q
theorem PostL.made {K : PySem.W.Frag} {σ : St} {H H1 H2 : Hp} {F F1 Fd Fe : FP} {r : List Res} {ρ1 : Rho} {p : Bool} {v : List V} {u : V} {d : D} (P : PostL K σ H F r ρ1 p v H1 F1 Fd) (k : Sm H1 H2) (n : ∀ x, Fe x → H1 x = none) (q : Rep K H2 u d Fe) :
    PostE K σ H F (.own d) ρ1 p u H2 F1 Fe := by
  refine ⟨P.s.same k, q, fun x z w => ?_, ?_, fun h => (P.pu h).trans k⟩
  · exact dom_ne P.s.dom x w (.of (n x z))
  · exact (P.fr.less fun x z => .inl z : Fr H F H1 F1).trans (Fr.of_same k fun x z => z.elim .inl fun z => .inr (n x z))
theorem cb_core {r : List V → Hp → VK → Prop} {g : List D → Option D} {K : PySem.W.Frag} (hs : CallS K r g) {σ : St} {H : Hp} {Q : VK} (h : wpE K W (dCB g fl) σ H Q) : tCB r (wpL K W fl) σ H Q := by
  obtain ⟨ρ, F, a, s, e, q⟩ := h
  refine bndLE s e q.exc fun rs ρ1 p1 vs H1 F1 Fd e1 P1 => ?_
  cases ea : rdL ρ1 rs with
  | none => rw [ea] at e1; cases e1
  | some ds =>
    rw [ea] at e1
    simp only [Option.bind_some] at e1
    cases eg : g ds with
    | none => rw [eg] at e1; cases e1
    | some d =>
      rw [eg] at e1; cases e1
      exact hs vs H1 ds d _ (P1.r.rds P1.s ea) eg fun u H' Fu k n ru => q u H' F1 Fu (P1.made k n ru)
section
variable {x : Str} {p : Pos} {id T : String} {r : List V → Hp → VK → Prop} {g : List D → Option D}
theorem de_callB (hc : CallR X (.builtin id) r) (hs : CallS X.K r g) (hg : Gl X x) (hm : X.mg x = none) (hv : bootBuiltins x = some (.builtin id)) (ha : DL X W (e :: es) fl) (hn : x ≠ "__name__" := by decide) (hdb : (x == ("__debug__" : Str)) = false := by decide)
    (he : starEach (e :: es) X.env = (false, eval e X.env) :: starEach es X.env := by rfl) (hpl : (backTo pos (starEach es X.env)).any (·.1) = false := by rfl) : DE X W (.Call (.Name x p) (e :: es) [] pos) (dCB g fl) :=
  PE.imp (pe_callB hc hg hm hv ha hn hdb he hpl) fun _ _ _ h => cb_core hs h
theorem de_callTy (hc : CallR X (.type T) r) (hs : CallS X.K r g) (hg : Gl X x) (hm : X.mg x = none) (hv : bootBuiltins x = some (.type T)) (ha : DL X W (e :: es) fl) (hn : x ≠ "__name__" := by decide) (hdb : (x == ("__debug__" : Str)) = false := by decide)
    (he : starEach (e :: es) X.env = (false, eval e X.env) :: starEach es X.env := by rfl) (hpl : (backTo pos (starEach es X.env)).any (·.1) = false := by rfl) : DE X W (.Call (.Name x p) (e :: es) [] pos) (dCB g fl) :=
  PE.imp (pe_callTy hc hg hm hv ha hn hdb he hpl) fun _ _ _ h => cb_core hs h
end
theorem Rds.one {K : PySem.W.Frag} {H : Hp} {vs d} (h : Rds K H vs [d]) : ∃ v G, vs = [v] ∧ Rep K H v d G := by
  cases h with | cons r t => cases t; exact ⟨_, _, rfl, r.choose_spec⟩
theorem Rds.two {K : PySem.W.Frag} {H : Hp} {vs d e} (h : Rds K H vs [d, e]) : ∃ v w G G', vs = [v, w] ∧ Rep K H v d G ∧ Rep K H w e G' := by
  cases h with | cons r t => cases t with | cons r' t' => cases t'; exact ⟨_, _, _, _, rfl, r.choose_spec, r'.choose_spec⟩
omit [Tbs] in
/-- by cases on what is given -/
def gLen : List D → Option D
  | [.lst xs] => some (.int xs.length)
  | [.tup xs] => some (.int xs.length)
  | [.fls xs] => some (.int xs.length)
  | _ => none
theorem cs_len {K : PySem.W.Frag} : CallS K (fun xs H Q => ∃ x n, xs = [x] ∧ LenV K x H n ∧ Q (.int n) H) gLen := by
  intro vs H ds d Q h e q
  have done : ∀ {v : V} {d0 : D} {xs : List D} {G : FP}, Rep K H v d0 G → d0.seq = some xs → d = .int xs.length → ∃ x n, [v] = [x] ∧ LenV K x H n ∧ Q (.int n) H := by
    intro v d0 xs G r hs ed
    obtain ⟨a, us, G', rfl, h1, h2, h3, _⟩ := r.seq hs
    refine ⟨_, us.length, rfl, h1.imp (fun z => ⟨us, z, rfl⟩) (fun z => ⟨us, z, rfl⟩), ?_⟩
    subst ed
    rw [h3.length]
    exact q _ H (fun _ => False) (Sm.refl H) (fun _ z => z.elim) (.int _ fun _ z => z)
  unfold gLen at e
  split at e
  · cases e; obtain ⟨v, G, rfl, r⟩ := h.one; exact done r rfl rfl
  · cases e; obtain ⟨v, G, rfl, r⟩ := h.one; exact done r rfl rfl
  · cases e; obtain ⟨v, G, rfl, r⟩ := h.one; exact done r rfl rfl
  · cases e
omit [Tbs] in
def gAbs : List D → Option D
  | [.int i] => some (.int (if i < 0 then -i else i))
  | _ => none
theorem cs_abs {K : PySem.W.Frag} : CallS K (fun xs H Q => ∃ i, xs = [.int i] ∧ Q (.int (if i < 0 then -i else i)) H) gAbs := by
  intro vs H ds d Q h e q
  unfold gAbs at e
  split at e
  · cases e; obtain ⟨v, G, rfl, r⟩ := h.one
    obtain rfl := r.int_inv
    exact ⟨_, rfl, q _ H (fun _ => False) (Sm.refl H) (fun _ z => z.elim) (.int _ fun _ z => z)⟩
  · cases e
omit [Tbs] in
def gMax : List D → Option D
  | [.int i, .int j] => some (.int (if j > i then j else i))
  | _ => none
theorem cs_max {K : PySem.W.Frag} : CallS K (fun xs H Q => ∃ i j, xs = [.int i, .int j] ∧ Q (.int (if j > i then j else i)) H) gMax := by
  intro vs H ds d Q h e q
  unfold gMax at e
  split at e
  · cases e; obtain ⟨v, w, G, G', rfl, r, r'⟩ := h.two
    obtain rfl := r.int_inv
    obtain rfl := r'.int_inv
    exact ⟨_, _, rfl, q _ H (fun _ => False) (Sm.refl H) (fun _ z => z.elim) (.int _ fun _ z => z)⟩
  · cases e
omit [Tbs] in
def gInt : List D → Option D
  | [.int i] => some (.int i)
  | [.bl k] => some (.int (if k then 1 else 0))
  | _ => none
theorem cs_int {K : PySem.W.Frag} : CallS K (fun xs H Q => (∃ i, xs = [.int i] ∧ Q (.int i) H) ∨ ∃ k, xs = [.bl k] ∧ Q (.int (if k then 1 else 0)) H) gInt := by
  intro vs H ds d Q h e q
  unfold gInt at e
  split at e
  · cases e; obtain ⟨v, G, rfl, r⟩ := h.one
    obtain rfl := r.int_inv
    exact .inl ⟨_, rfl, q _ H (fun _ => False) (Sm.refl H) (fun _ z => z.elim) (.int _ fun _ z => z)⟩
  · cases e; obtain ⟨v, G, rfl, r⟩ := h.one
    obtain rfl := r.bl_inv
    exact .inr ⟨_, rfl, q _ H (fun _ => False) (Sm.refl H) (fun _ z => z.elim) (.int _ fun _ z => z)⟩
  · cases e
omit [Tbs] in
def gTupOf : List D → Option D
  | [.lst xs] => if immL xs then some (.tup xs) else none
  | [.tup xs] => if immL xs then some (.tup xs) else none
  | _ => none
theorem cs_tupOf {K : PySem.W.Frag} : CallS K (fun xs H Q => ∃ p ys, xs = [.ref p] ∧ ((SqL K H p ys ∧ ∀ l, H l = none → Q (.ref l) (upd H l (.tup ys))) ∨ (SqT K H p ys ∧ Q (.ref p) H))) gTupOf := by
  intro vs H ds d Q h e q
  unfold gTupOf at e
  split at e
  · split at e
    · rename_i hi
      cases e; obtain ⟨v, G, rfl, r⟩ := h.one
      obtain ⟨a, us, G', rfl, h1, h2, h3, _⟩ := r.lst_inv
      exact ⟨a, us, rfl, .inl ⟨SqL.of h1, fun l hl => q _ _ _ (Sm.new hl) (fun x z => z.elim) (rep_newT hl h2 (h3.thin hi))⟩⟩
    · cases e
  · split at e
    · rename_i hi
      cases e; obtain ⟨v, G, rfl, r⟩ := h.one
      obtain ⟨a, us, rfl, h1, h2, h3⟩ := id r.tup_inv
      exact ⟨a, us, rfl, .inr ⟨h1, q _ H _ (Sm.refl H) (fun x z => z.elim) (r.thin (by simpa [D.imm] using hi))⟩⟩
    · cases e
  · cases e
omit [Tbs] in
def gLstOf : List D → Option D
  | [d] => d.seq.bind fun xs => if immL xs then some (.lst xs) else none
  | _ => none
theorem cs_lstOf {K : PySem.W.Frag} : CallS K (fun xs H Q => ∃ p ys, xs = [.ref p] ∧ (SqL K H p ys ∨ SqT K H p ys) ∧ ∀ l, H l = none → Q (.ref l) (upd H l (.lst ys))) gLstOf := by
  intro vs H ds d Q h e q
  unfold gLstOf at e
  split at e
  · rename_i d0
    cases hx : d0.seq with
    | none => rw [hx] at e; cases e
    | some xs =>
      rw [hx] at e
      simp only [Option.bind_some] at e
      split at e
      · rename_i hi
        cases e; obtain ⟨v, G, rfl, r⟩ := h.one
        obtain ⟨a, us, G', rfl, h1, h2, h3, _⟩ := r.seq hx
        exact ⟨a, us, rfl, h1, fun l hl => q _ _ (fun x => x = l) (Sm.new hl) (fun x z => by rw [z]; exact hl) (rep_newL hl h2 (h3.thin hi) hi)⟩
      · cases e
  · cases e
end
end PD
end
section
set_option Elab.async false
set_option linter.all false
set_option autoImplicit false
set_option maxRecDepth 100000
/-! Tests and statements. -/
namespace PD
open PySem PySem.Spec L2

variable [Tbs]
/-! ### tests -/
omit [Tbs] in
inductive AnsB where
  | ok (b : Bool) (ρ : Rho) (p : Bool)
  | exc (c : Value) (ρ : Rho)
omit [Tbs] in
abbrev EvB := Rho → Option AnsB
def FinB (K : PySem.W.Frag) (W : WX) (σ : St) (H : Hp) (F : FP) (Q : Bool → Hp → Prop) : AnsB → Prop
  | .ok b ρ' p => ∀ H' F', PostX K σ H F ρ' H' F' → (p = true → Sm H H') → Q b H'
  | .exc c ρ' => ∀ H' F', PostX K σ H F ρ' H' F' → W c none σ H'
def wpB (K : PySem.W.Frag) (W : WX) (f : EvB) : TT := fun σ H Q => ∃ ρ F a, RepS K H σ ρ F ∧ f ρ = some a ∧ FinB K W σ H F Q a
def DT (X : Cx) (W : WX) (e : Expr) (f : EvB) : Prop := PT X e (wpB X.K W f)
omit [Tbs] in
def bndB {β : Type} (x : Value → Rho → β) (f : EvB) (k : Bool → Rho → Bool → Option β) : Rho → Option β := fun ρ =>
  match f ρ with
  | some (.ok r ρ' p) => k r ρ' p
  | some (.exc c ρ') => some (x c ρ')
  | none => none
theorem bndBE {β : Type} {x : Value → Rho → β} {K : PySem.W.Frag} {W : WX} {f : EvB} {k : Bool → Rho → Bool → Option β} {σ : St} {H : Hp} {ρ : Rho} {F : FP} {a : β} {Q : Bool → Hp → Prop}
    (s : RepS K H σ ρ F) (e : bndB x f k ρ = some a) (hx : ∀ c ρ', a = x c ρ' → ∀ H' F', PostX K σ H F ρ' H' F' → W c none σ H')
    (hk : ∀ r ρ1 p H1 F1, k r ρ1 p = some a → PostX K σ H F ρ1 H1 F1 → (p = true → Sm H H1) → Q r H1) : wpB K W f σ H Q := by
  unfold bndB at e
  cases q : f ρ with
  | none => rw [q] at e; cases e
  | some b =>
    rw [q] at e
    refine ⟨ρ, F, b, s, q, ?_⟩
    cases b with
    | ok r ρ' p => exact fun H' F' h u => hk r ρ' p H' F' e h u
    | exc c ρ' =>
      cases e
      exact fun H' F' h => hx c ρ' rfl H' F' h
theorem FinB.exc {K : PySem.W.Frag} {W : WX} {σ : St} {H : Hp} {F : FP} {Q : Bool → Hp → Prop} {a : AnsB} (h : FinB K W σ H F Q a) : ∀ c ρ', a = .exc c ρ' → ∀ H' F', PostX K σ H F ρ' H' F' → W c none σ H' := by
  rintro c ρ' rfl
  exact h
theorem PT.imp {X : Cx} {e : Expr} {t t' : TT} (h : PT X e t) (k : ∀ σ H Q, t' σ H Q → t σ H Q) : PT X e t' :=
  ⟨fun pins s σ H Q I q => h.run pins s σ H Q I (k σ H Q q)⟩
theorem PostX.trans {K : PySem.W.Frag} {σ : St} {H H1 H2 : Hp} {F F1 F2 : FP} {ρ1 ρ2 : Rho} (a : PostX K σ H F ρ1 H1 F1) (b : PostX K σ H1 F1 ρ2 H2 F2) : PostX K σ H F ρ2 H2 F2 := ⟨b.s, a.fr.trans b.fr⟩
omit [Tbs] in
/-- the truth of a bool -/
def dB (f : Ev) : EvB := bnd .exc f fun r ρ p => match r.rd ρ with
  | some (.bl b) => some (.ok b ρ p)
  | _ => none
section
variable {X : Cx} {W : WX} {e a b : Expr} {es : List Expr} {f fa fb : Ev} {fl : EvL} {pos : Pos} {ta tb : EvB}
theorem dt_of {t : TE} (h : PT X e (tTest t)) (k : ∀ σ H Q, wpE X.K W f σ H Q → t σ H Q) : DT X W e (dB f) := by
  refine PT.imp h fun σ H Q h => k σ H _ ?_
  obtain ⟨ρ, F, a, s, e, q⟩ := h
  refine bndE s e q.exc fun r ρ1 p v H1 F1 Fd e1 P1 => ?_
  split at e1
  · rename_i b hb
    cases e1
    obtain ⟨G, g, _⟩ := P1.r.rd P1.s hb
    exact ⟨b, g.bl_inv, q H1 F1 ⟨P1.s, P1.fr1⟩ P1.pu⟩
  · cases e1
theorem dt_val (h : DE X W e f) (he : ∀ whole, isTrue e X.env whole = (do let v ← whole; standAt e.pos; holding [v] (truthy v)) := by intro _; rfl) : DT X W e (dB f) := dt_of (pt_val h he) fun _ _ _ h => h
theorem dt_cmp {op : CmpOp} {r : R2} {g : D → D → Option D} (ho : OpR X (compareOp op) r) (hs : OpS X.K r g) (ha : DE X W a fa) (hb : DE X W b fb) (hm : behindInMarks op b = false := by first | exact nomark _ | rfl) : DT X W (.Compare a [op] [b] pos) (dB (dOp g fa fb)) :=
  dt_of (pt_cmpR ho ha hb hm) fun _ _ _ h => op_core hs h
theorem dt_inD (hu : X.A.units + 1 < cLine) (ha : DE X W a fa) (hb : DE X W b fb) (h1 : behindInMarks .In b = false := by first | rfl | exact nomark _) : DT X W (.Compare a [.In] [b] pos) (dB (dOp (gInD false) fa fb)) :=
  dt_of (t := tDIn (wpE X.K W fa) (wpE X.K W fb)) (pt_cmp (pc_din hu ha hb) h1) fun _ _ _ h => op_core (ind_core false) h
theorem dt_ninD (hu : X.A.units + 1 < cLine) (ha : DE X W a fa) (hb : DE X W b fb) (h1 : behindInMarks .NotIn b = false := by first | rfl | exact nomark _) : DT X W (.Compare a [.NotIn] [b] pos) (dB (dOp (gInD true) fa fb)) :=
  dt_of (t := tDNotIn (wpE X.K W fa) (wpE X.K W fb)) (pt_cmp (pc_dnotin hu ha hb) h1) fun _ _ _ h => op_core (ind_core true) h
omit [Tbs] in
def dNot (t : EvB) : EvB := bndB .exc t fun b ρ p => some (.ok (!b) ρ p)
theorem dt_not (h : DT X W a ta) : DT X W (.UnaryOp .Not a pos) (dNot ta) := by
  refine PT.imp (pt_not h) fun σ H Q h => ?_
  obtain ⟨ρ, F, a, s, e, q⟩ := h
  refine bndBE s e q.exc fun b ρ1 p H1 F1 e1 P1 u1 => ?_
  cases e1
  exact q H1 F1 P1 u1
omit [Tbs] in
def dAnd (t u : EvB) : EvB := bndB .exc t fun b ρ p => if b = true then bndB .exc u (fun c ρ' p' => some (.ok c ρ' (p && p'))) ρ else some (.ok false ρ p)
omit [Tbs] in
def dOr (t u : EvB) : EvB := bndB .exc t fun b ρ p => if b = true then some (.ok true ρ p) else bndB .exc u (fun c ρ' p' => some (.ok c ρ' (p && p'))) ρ
def DW (X : Cx) (W : WX) (e : Expr) (f : EvB) : Prop := PW X e (wpB X.K W f)
theorem PW.imp {X : Cx} {e : Expr} {t t' : TT} (h : PW X e t) (k : ∀ σ H Q, t' σ H Q → t σ H Q) : PW X e t' :=
  ⟨fun wh pins s σ H Q I q => h.run wh pins s σ H Q I (k σ H Q q)⟩
theorem dw_and1 (ha : DT X W a ta) : DW X W (.BoolOp .And [a] pos) ta := pw_and1 ha
theorem dw_or1 (ha : DT X W a ta) : DW X W (.BoolOp .Or [a] pos) ta := pw_or1 ha
theorem dw_and (ha : DT X W a ta) (hb : DW X W (.BoolOp .And (b :: es) pos) tb) : DW X W (.BoolOp .And (a :: b :: es) pos) (dAnd ta tb) := by
  refine PW.imp (pw_and ha hb) fun σ H Q h => ?_
  obtain ⟨ρ, F, a, s, e, q⟩ := h
  have qx := q.exc
  refine bndBE s e qx fun b ρ1 p H1 F1 e1 P1 u1 => ?_
  split at e1
  · rename_i hb
    rw [if_pos hb]
    refine bndBE P1.s e1 (fun c ρ' ea H' F' hx => qx c ρ' ea H' F' (P1.trans hx)) fun c ρ2 p2 H2 F2 e2 P2 u2 => ?_
    cases e2
    exact q H2 F2 (P1.trans P2) fun z => by simp at z; exact (u1 z.1).trans (u2 z.2)
  · rename_i hb
    rw [if_neg hb]
    cases e1
    exact q H1 F1 P1 u1
theorem dw_or (ha : DT X W a ta) (hb : DW X W (.BoolOp .Or (b :: es) pos) tb) : DW X W (.BoolOp .Or (a :: b :: es) pos) (dOr ta tb) := by
  refine PW.imp (pw_or ha hb) fun σ H Q h => ?_
  obtain ⟨ρ, F, a, s, e, q⟩ := h
  have qx := q.exc
  refine bndBE s e qx fun b ρ1 p H1 F1 e1 P1 u1 => ?_
  split at e1
  · rename_i hb
    rw [if_pos hb]
    cases e1
    exact q H1 F1 P1 u1
  · rename_i hb
    rw [if_neg hb]
    refine bndBE P1.s e1 (fun c ρ' ea H' F' hx => qx c ρ' ea H' F' (P1.trans hx)) fun c ρ2 p2 H2 F2 e2 P2 u2 => ?_
    cases e2
    exact q H2 F2 (P1.trans P2) fun z => by simp at z; exact (u1 z.1).trans (u2 z.2)
theorem dt_w (h : DW X W e ta) : DT X W e ta := h.pt
omit [Tbs] in
/-- a if t else b -/
def dIf (t : EvB) (fa fb : Ev) : Ev := bndB .exc t fun c ρ p => bnd .exc (if c = true then fa else fb) (fun r ρ' p' => some (.ok r ρ' (p && p'))) ρ
theorem de_if {c : Expr} (hc : DT X W c ta) (ha : DE X W a fa) (hb : DE X W b fb) : DE X W (.IfExp c a b pos) (dIf ta fa fb) := by
  refine PE.imp (pe_ifExp hc ha hb) fun σ H Q h => ?_
  obtain ⟨ρ, F, a, s, e, q⟩ := h
  have qx := q.exc
  refine bndBE s e qx fun b ρ1 p H1 F1 e1 P1 u1 => ?_
  have go : ∀ {g : Ev}, bnd Ans.exc g (fun r ρ' p' => some (.ok r ρ' (p && p'))) ρ1 = some a → wpE X.K W g σ H1 Q := fun {g} eg =>
    bndE P1.s eg (fun c ρ' ea H' F' hx => qx c ρ' ea H' F' (P1.trans hx)) fun r ρ2 p2 v H2 F2 Fd e2 P2 => by
      cases e2
      exact q v H2 F2 Fd ⟨P2.s, P2.r, P2.dj, P1.fr.trans P2.fr, fun z => by simp at z; exact (u1 z.1).trans (P2.pu z.2)⟩
  cases b with
  | true => exact go e1
  | false => exact go e1
omit [Tbs] in
/-- a and b, as a value of bools -/
def dAndV (fa fb : Ev) : Ev := bnd .exc fa fun r ρ p => match r.rd ρ with
  | some (.bl true) => bnd .exc fb (fun r' ρ' p' => some (.ok r' ρ' (p && p'))) ρ
  | some (.bl false) => some (.ok (.own (.bl false)) ρ p)
  | _ => none
theorem de_and1 {op} (h : DE X W a fa) : DE X W (.BoolOp op [a] pos) fa := pe_one h
theorem de_and (ha : DE X W a fa) (hb : DE X W (.BoolOp .And (b :: es) pos) fb) : DE X W (.BoolOp .And (a :: b :: es) pos) (dAndV fa fb) := by
  refine PE.imp (pe_and ha hb) fun σ H Q h => ?_
  obtain ⟨ρ, F, a, s, e, q⟩ := h
  have qx := q.exc
  refine bndE s e qx fun r ρ1 p v H1 F1 Fd e1 P1 => ?_
  split at e1
  · rename_i hb
    obtain ⟨G, g, _⟩ := P1.r.rd P1.s hb
    refine ⟨true, g.bl_inv, ?_⟩
    show wpE X.K W fb σ H1 Q
    refine bndE P1.s e1 (fun c ρ' ea H' F' hx => qx c ρ' ea H' F' (P1.next hx)) fun r2 ρ2 p2 v2 H2 F2 Fe e2 P2 => ?_
    cases e2
    exact q v2 H2 F2 Fe (P1.seq P2)
  · rename_i hb
    cases e1
    obtain ⟨G, g, _⟩ := P1.r.rd P1.s hb
    refine ⟨false, g.bl_inv, ?_⟩
    exact q _ H1 F1 (fun _ => False) ⟨P1.s, .bl _ fun _ z => z, fun _ z => z.elim, P1.fr1.less fun a z => z.elim id False.elim, P1.pu⟩
  · cases e1
end

/-! ### statements -/
omit [Tbs] in
inductive Out where
  | nx (ρ : Rho) | ret (d : D) (ρ : Rho) | bk (ρ : Rho) | ct (ρ : Rho) | exc (c : Value) (ρ : Rho)
omit [Tbs] in
abbrev Sv := Rho → Option Out
omit [Tbs] in
/-- the slots that keep what they were given -/
def Prot (prot : List Nat) (σ σ' : St) : Prop := σ'.length = σ.length ∧ ∀ i ∈ prot, σ'[i]? = σ[i]?
theorem Prot.refl {prot σ} : Prot prot σ σ := ⟨rfl, fun _ _ => rfl⟩
theorem Prot.trans {prot σ σ1 σ2} (a : Prot prot σ σ1) (b : Prot prot σ1 σ2) : Prot prot σ σ2 := ⟨b.1.trans a.1, fun i h => (b.2 i h).trans (a.2 i h)⟩
structure PostS (K : PySem.W.Frag) (prot : List Nat) (σ : St) (H : Hp) (F : FP) (ρ' : Rho) (σ' : St) (H' : Hp) (F' : FP) : Prop where
  s : RepS K H' σ' ρ' F'
  fr : Fr H F H' F'
  pr : Prot prot σ σ'
theorem PostS.trans {K : PySem.W.Frag} {prot : List Nat} {σ σ1 σ2 : St} {H H1 H2 : Hp} {F F1 F2 : FP} {ρ1 ρ2 : Rho} (a : PostS K prot σ H F ρ1 σ1 H1 F1) (b : PostS K prot σ1 H1 F1 ρ2 σ2 H2 F2) : PostS K prot σ H F ρ2 σ2 H2 F2 :=
  ⟨b.s, a.fr.trans b.fr, a.pr.trans b.pr⟩
theorem PostX.toS {K : PySem.W.Frag} {prot : List Nat} {σ : St} {H H1 : Hp} {F F1 : FP} {ρ1 : Rho} (a : PostX K σ H F ρ1 H1 F1) : PostS K prot σ H F ρ1 σ H1 F1 := ⟨a.s, a.fr, Prot.refl⟩
def FinS (K : PySem.W.Frag) (W : WX) (prot : List Nat) (σ : St) (H : Hp) (F : FP) (E : Ends) : Out → Prop
  | .nx ρ' => ∀ σ' H' F', PostS K prot σ H F ρ' σ' H' F' → E.nx σ' H'
  | .bk ρ' => ∀ σ' H' F', PostS K prot σ H F ρ' σ' H' F' → E.bk σ' H'
  | .ct ρ' => ∀ σ' H' F', PostS K prot σ H F ρ' σ' H' F' → E.ct σ' H'
  | .ret d ρ' => ∀ σ' H' F' v Fd, RepS K H' σ' ρ' F' → Rep K H' v d Fd → Disj Fd F' → Fr H F H' (orF F' Fd) → Prot prot σ σ' → E.rt v H'
  | .exc c ρ' => ∀ σ' H' F', PostS K prot σ H F ρ' σ' H' F' → W c none σ' H'
def wpS (K : PySem.W.Frag) (W : WX) (prot : List Nat) (g : Sv) : TS := fun E σ H => ∃ ρ F a, RepS K H σ ρ F ∧ g ρ = some a ∧ FinS K W prot σ H F E a
def DS (X : Cx) (W : WX) (prot : List Nat) (st : Stmt) (g : Sv) : Prop := PS X st (wpS X.K W prot g)
def DSs (X : Cx) (W : WX) (prot : List Nat) (st : List Stmt) (g : Sv) : Prop := PSs X st (wpS X.K W prot g)
theorem PS.imp {X : Cx} {e : Stmt} {t t' : TS} (h : PS X e t) (k : ∀ σ H D, t' D σ H → t D σ H) : PS X e t' :=
  ⟨fun pins s σ H D I q => h.run pins s σ H D I (k σ H D q)⟩
theorem PSs.imp {X : Cx} {e : List Stmt} {t t' : TS} (h : PSs X e t) (k : ∀ σ H D, t' D σ H → t D σ H) : PSs X e t' :=
  ⟨fun pins s σ H D I q => h.run pins s σ H D I (k σ H D q)⟩
theorem FinS.exc {K : PySem.W.Frag} {W : WX} {prot : List Nat} {σ : St} {H : Hp} {F : FP} {E : Ends} {a : Out} (h : FinS K W prot σ H F E a) : ∀ c ρ', a = .exc c ρ' → ∀ H' F', PostX K σ H F ρ' H' F' → W c none σ H' := by
  rintro c ρ' rfl
  exact fun H' F' p => h σ H' F' p.toS
/-- what stands behind a first part holds from the start -/
theorem FinS.from {K : PySem.W.Frag} {W : WX} {prot : List Nat} {σ σ1 : St} {H H1 : Hp} {F F1 : FP} {ρ1 : Rho} {E : Ends} {a : Out} (P : PostS K prot σ H F ρ1 σ1 H1 F1) (h : FinS K W prot σ H F E a) : FinS K W prot σ1 H1 F1 E a := by
  cases a with
  | nx ρ' => exact fun σ' H' F' p => h σ' H' F' (P.trans p)
  | bk ρ' => exact fun σ' H' F' p => h σ' H' F' (P.trans p)
  | ct ρ' => exact fun σ' H' F' p => h σ' H' F' (P.trans p)
  | exc c ρ' => exact fun σ' H' F' p => h σ' H' F' (P.trans p)
  | ret d ρ' => exact fun σ' H' F' v Fd s r dj fr pr => h σ' H' F' v Fd s r dj (P.fr.trans fr) (P.pr.trans pr)
omit [Tbs] in
def dNil' : Sv := fun ρ => some (.nx ρ)
omit [Tbs] in
def dSeq (g h : Sv) : Sv := fun ρ => match g ρ with
  | some (.nx ρ') => h ρ'
  | o => o
section
variable {X : Cx} {W : WX} {prot : List Nat} {e a b : Expr} {es : List Expr} {f fa fb : Ev} {fl : EvL} {pos : Pos} {ta tb : EvB} {st : Stmt} {sts : List Stmt} {g h : Sv}
theorem dss_nil : DSs X W prot [] dNil' := PSs.imp pss_nil fun σ H E q => by
  obtain ⟨ρ, F, a, s, e, q⟩ := q
  cases e
  exact q σ H F ⟨s, Fr.refl H F, Prot.refl⟩
/-- weaker ends -/
theorem FinS.ends {K : PySem.W.Frag} {σ : St} {H : Hp} {F : FP} {E E' : Ends} {a : Out} (q : FinS K W prot σ H F E a)
    (hn : ∀ ρ', a = .nx ρ' → ∀ σ' H' F', PostS K prot σ H F ρ' σ' H' F' → E'.nx σ' H') (hb : ∀ ρ', a = .bk ρ' → ∀ σ' H' F', PostS K prot σ H F ρ' σ' H' F' → E'.bk σ' H')
    (hc : ∀ ρ', a = .ct ρ' → ∀ σ' H' F', PostS K prot σ H F ρ' σ' H' F' → E'.ct σ' H') (hr : E'.rt = E.rt) : FinS K W prot σ H F E' a := by
  cases a with
  | nx ρ' => exact hn ρ' rfl
  | bk ρ' => exact hb ρ' rfl
  | ct ρ' => exact hc ρ' rfl
  | exc c ρ' => exact q
  | ret d ρ' =>
    intro σ' H' F' v Fd s r dj fr pr
    rw [hr]
    exact q σ' H' F' v Fd s r dj fr pr
theorem dss_cons (h1 : DS X W prot st g) (h2 : DSs X W prot sts h) : DSs X W prot (st :: sts) (dSeq g h) := by
  refine PSs.imp (pss_cons h1 h2) fun σ H E q => ?_
  obtain ⟨ρ, F, a, s, e, q⟩ := q
  unfold dSeq at e
  split at e
  · rename_i ρ' hg
    refine ⟨ρ, F, _, s, hg, fun σ' H' F' p => ?_⟩
    exact ⟨ρ', F', a, p.s, e, q.from p⟩
  · rename_i hn
    refine ⟨ρ, F, a, s, e, q.ends (fun ρ' ea => absurd (ea ▸ e) (hn ρ')) (fun ρ' ea => ?_) (fun ρ' ea => ?_) rfl⟩
    · subst ea; exact q
    · subst ea; exact q
theorem dss_one (h1 : DS X W prot st g) : DSs X W prot [st] g := pss_one h1
omit [Tbs] in
def dRet (f : Ev) : Sv := bnd .exc f fun r ρ p => (takeR ρ r).map fun z => .ret z.1 z.2
theorem ds_ret (h : DE X W e f) : DS X W prot (.Return (some e) pos) (dRet f) := by
  refine PS.imp (ps_ret h) fun σ H E q => ?_
  obtain ⟨ρ, F, a, s, e, q⟩ := q
  refine bndE s e q.exc fun r ρ1 p v H1 F1 Fd e1 P1 => ?_
  cases et : takeR ρ1 r with
  | none => rw [et] at e1; cases e1
  | some z =>
    rw [et] at e1; cases e1
    obtain ⟨F', Fe, s2, r2, dj2, k1, k2⟩ := takeR_ok P1.s P1.r P1.dj et
    exact q σ H1 F' v Fe s2 r2 dj2 (P1.fr.less fun a z => z.elim (fun z => .inl (k1 a z)) (k2 a)) Prot.refl
omit [Tbs] in
def dExp (f : Ev) : Sv := bnd .exc f fun r ρ p => some (.nx ρ)
theorem ds_exp (h : DE X W e f) (hs : swapsWith e none pos.line X.env = pure false := by rfl) : DS X W prot (.Expr e pos) (dExp f) := by
  refine PS.imp (ps_expr h hs) fun σ H E q => ?_
  obtain ⟨ρ, F, a, s, e, q⟩ := q
  refine bndE s e q.exc fun r ρ1 p v H1 F1 Fd e1 P1 => ?_
  cases e1
  exact q σ H1 F1 ⟨P1.s, P1.fr1, Prot.refl⟩
omit [Tbs] in
def dPass : Sv := fun ρ => some (.nx ρ)
theorem ds_pass : DS X W prot (.Pass pos) dPass := PS.imp ps_pass fun σ H E q => by
  obtain ⟨ρ, F, a, s, e, q⟩ := q
  cases e
  exact q σ H F ⟨s, Fr.refl H F, Prot.refl⟩
omit [Tbs] in
def dBrk : Sv := fun ρ => some (.bk ρ)
theorem ds_brk : DS X W prot (.Break pos) dBrk := PS.imp ps_break fun σ H E q => by
  obtain ⟨ρ, F, a, s, e, q⟩ := q
  cases e
  exact q σ H F ⟨s, Fr.refl H F, Prot.refl⟩
omit [Tbs] in
def dCnt : Sv := fun ρ => some (.ct ρ)
theorem ds_cnt : DS X W prot (.Continue pos) dCnt := PS.imp ps_continue fun σ H E q => by
  obtain ⟨ρ, F, a, s, e, q⟩ := q
  cases e
  exact q σ H F ⟨s, Fr.refl H F, Prot.refl⟩
omit [Tbs] in
def dIfS (t : EvB) (g h : Sv) : Sv := bndB .exc t fun b ρ p => if b = true then g ρ else h ρ
theorem ds_if {c : Expr} {xs ys : List Stmt} (hc : DT X W c ta) (ha : DSs X W prot xs g) (hb : DSs X W prot ys h) : DS X W prot (.If c xs ys pos) (dIfS ta g h) := by
  refine PS.imp (ps_if hc ha hb) fun σ H E q => ?_
  obtain ⟨ρ, F, a, s, e, q⟩ := q
  refine bndBE s e q.exc fun b ρ1 p H1 F1 e1 P1 u1 => ?_
  split at e1
  · rename_i hb; rw [if_pos hb]; exact ⟨ρ1, F1, a, P1.s, e1, q.from P1.toS⟩
  · rename_i hb; rw [if_neg hb]; exact ⟨ρ1, F1, a, P1.s, e1, q.from P1.toS⟩

/-! ### targets -/
def wpG (K : PySem.W.Frag) (prot : List Nat) (tg : D → Rho → Option Rho) : TG := fun v σ H Q => ∃ d ρ F Fd ρ', Rep K H v d Fd ∧ RepS K H σ ρ F ∧ Disj Fd F ∧ tg d ρ = some ρ' ∧
  ∀ σ' H' F', PostS K prot σ H (orF F Fd) ρ' σ' H' F' → Sm H H' → Q σ' H'
def wpGs (K : PySem.W.Frag) (prot : List Nat) (tg : List D → Rho → Option Rho) : TGs := fun v σ H Q => ∃ d ρ F Fd ρ', RepL K H v d Fd ∧ RepS K H σ ρ F ∧ Disj Fd F ∧ tg d ρ = some ρ' ∧
  ∀ σ' H' F', PostS K prot σ H (orF F Fd) ρ' σ' H' F' → Sm H H' → Q σ' H'
def DG (X : Cx) (prot : List Nat) (e : Expr) (tg : D → Rho → Option Rho) : Prop := PG X e (wpG X.K prot tg)
def DGs (X : Cx) (prot : List Nat) (e : List Expr) (tg : List D → Rho → Option Rho) : Prop := PGs X e (wpGs X.K prot tg)
theorem PG.imp {X : Cx} {e : Expr} {t t' : TG} (h : PG X e t) (k : ∀ v σ H Q, t' v σ H Q → t v σ H Q) : PG X e t' :=
  ⟨fun pins s σ H v u Q I r q => h.run pins s σ H v u Q I r (k v σ H Q q)⟩
theorem PGs.imp {X : Cx} {e : List Expr} {t t' : TGs} (h : PGs X e t) (k : ∀ v σ H Q, t' v σ H Q → t v σ H Q) : PGs X e t' :=
  ⟨fun pins s σ H v u Q I r q => h.run pins s σ H v u Q I r (k v σ H Q q)⟩
omit [Tbs] in
def tName (i : Nat) : D → Rho → Option Rho := fun d ρ => some (ρ.set i (some d))
theorem gName_ok {K : PySem.W.Frag} {i : Nat} (hi : i ∉ prot) {v : V} {σ : St} {H : Hp} {Q : St → Hp → Prop} (q : wpG K prot (tName i) v σ H Q) : gName i v σ H Q := by
  obtain ⟨d, ρ, F, Fd, ρ', r, s, dj, e, q⟩ := q
  cases e
  obtain ⟨F', s', k⟩ := s.store (i := i) r dj
  refine q _ H F' ⟨s', (Fr.refl H _).less fun a z => (k a z).symm, by simp, fun j hj => ?_⟩ ?_
  · rw [List.getElem?_set_ne (show i ≠ j from fun z => hi (by rw [z]; exact hj))]
  · exact Sm.refl H
theorem dg_name (i : Nat) {x : Str} (hN : X.N.Nodup) (hp : i ∉ prot := by decide) (hi : X.N[i]? = some x := by rfl) (hx : Loc X.env.scope x := by first | exact Or.inl rfl | exact Or.inr rfl)
    (hf : X.fn x = true ∨ X.env.scope.names.lookup x = some .local := by first | exact .inl rfl | exact .inr rfl | assumption) : DG X prot (.Name x pos) (tName i) :=
  PG.imp (pg_name hN hi hx hf) fun v σ H Q q => gName_ok hp q
omit [Tbs] in
def tsNil : List D → Rho → Option Rho := fun ds ρ => match ds with
  | [] => some ρ
  | _ => none
omit [Tbs] in
def tsCons (t : D → Rho → Option Rho) (u : List D → Rho → Option Rho) : List D → Rho → Option Rho := fun ds ρ => match ds with
  | d :: r => (t d ρ).bind (u r)
  | [] => none
theorem dgs_nil : DGs X prot [] tsNil := PGs.imp pgs_nil fun v σ H Q q => by
  obtain ⟨d, ρ, F, Fd, ρ', r, s, dj, e, q⟩ := q
  unfold tsNil at e
  split at e
  · cases e
    cases r with
    | nil e0 => exact ⟨rfl, q σ H F ⟨s, (Fr.refl H _).less fun a z => .inl z, Prot.refl⟩ (Sm.refl H)⟩
  · cases e
theorem dgs_cons {t : D → Rho → Option Rho} {u : List D → Rho → Option Rho} (h1 : DG X prot e t) (h2 : DGs X prot es u)
    (hs : (assignEach (e :: es) X.env).map (·.2) = assign e X.env :: (assignEach es X.env).map (·.2) := by rfl) : DGs X prot (e :: es) (tsCons t u) := by
  refine PGs.imp (pgs_cons h1 h2 hs) fun v σ H Q q => ?_
  obtain ⟨d, ρ, F, Fd, ρ', r, s, dj, e, q⟩ := q
  unfold tsCons at e
  split at e
  · rename_i d ds
    cases r with
    | cons r1 rs n e0 =>
      rename_i v vs F1 F2
      cases et : t d ρ with
      | none => rw [et] at e; cases e
      | some ρ1 =>
        rw [et] at e
        refine ⟨v, vs, rfl, d, ρ, F, F1, ρ1, r1, s, (fun a f => dj a ((e0 a).mpr (.inl f))), et, fun σ1 H1 F3 P sm1 => ?_⟩
        have dj' : Disj F2 (orF F F1) := fun a f g => g.elim (dj a ((e0 a).mpr (.inr f))) fun g => n a g f
        refine ⟨ds, ρ1, F3, F2, ρ', P.fr.repL rs dj', P.s, P.fr.apart (dom_ne rs.dom) dj', e, fun σ2 H2 F4 P2 sm2 => q σ2 H2 F4 ⟨P2.s, ?_, P.pr.trans P2.pr⟩ (sm1.trans sm2)⟩
        refine ((P.fr.wide (dom_ne rs.dom)).trans P2.fr).more fun a z => ?_
        rcases z with (z | z) | z
        · exact .inl z
        · exact .inr ((e0 a).mpr (.inl z))
        · exact .inr ((e0 a).mpr (.inr z))
  · cases e
omit [Tbs] in
def tTupG (n : Nat) (u : List D → Rho → Option Rho) : D → Rho → Option Rho := fun d ρ => match d with
  | .tup ds => if ds.length = n then u ds ρ else none
  | _ => none
theorem dg_tup {k n : Nat} {u : List D → Rho → Option Rho} (hc : X.calm = true) (h : DGs X prot es u) (hn : (assignEach es X.env).length = n := by rfl) (hst : (assignEach es X.env).findIdx? (·.1) = none := by rfl) : DG X prot (.Tuple es k pos) (tTupG n u) := by
  refine PG.imp (pg_tup hc h hn hst) fun v σ H Q q => ?_
  obtain ⟨d, ρ, F, Fd, ρ', r, s, dj, e, q⟩ := q
  unfold tTupG at e
  split at e
  · rename_i ds
    split at e
    · rename_i hl
      obtain ⟨a, vs, rfl, h1, h2, h3⟩ := r.tup_inv
      exact ⟨a, vs, rfl, h1, by rw [h3.length]; exact hl, ds, ρ, F, Fd, ρ', h3, s, dj, e, q⟩
    · cases e
  · cases e
omit [Tbs] in
def dAsg (tg : D → Rho → Option Rho) (f : Ev) : Sv := bnd .exc f fun r ρ p => (takeR ρ r).bind fun z => (tg z.1 z.2).map .nx
theorem asg_core {tg : D → Rho → Option Rho} {K : PySem.W.Frag} {σ : St} {H : Hp} {E : Ends} (q : wpS K W prot (dAsg tg f) E σ H) : wpE K W f σ H fun x H1 => wpG K prot tg x σ H1 E.nx := by
  obtain ⟨ρ, F, a, s, e, q⟩ := q
  refine bndE s e q.exc fun r ρ1 p v H1 F1 Fd e1 P1 => ?_
  cases et : takeR ρ1 r with
  | none => rw [et] at e1; cases e1
  | some z =>
    obtain ⟨d, ρ2⟩ := z
    rw [et] at e1
    simp only [Option.bind_some] at e1
    cases eg : tg d ρ2 with
    | none => rw [eg] at e1; cases e1
    | some ρ3 =>
      rw [eg] at e1; cases e1
      obtain ⟨F', Fe, s2, r2, dj2, k1, k2⟩ := takeR_ok P1.s P1.r P1.dj et
      refine ⟨d, ρ2, F', Fe, ρ3, r2, s2, dj2, eg, fun σ' H' F3 P _ => q σ' H' F3 ⟨P.s, ?_, P.pr⟩⟩
      have a1 : Fr H F H1 (orF F' Fe) := P1.fr.less fun a z => z.elim (fun z => .inl (k1 a z)) (k2 a)
      exact a1.trans P.fr
theorem ds_set (i : Nat) {x : Str} {pos' : Pos} (hN : X.N.Nodup) (he : DE X W e f) (hp : i ∉ prot := by decide) (hi : X.N[i]? = some x := by rfl) (hx : Loc X.env.scope x := by first | exact Or.inl rfl | exact Or.inr rfl)
    (hs : swapsWith e (some (.Name x pos')) pos.line X.env = pure false := by rfl) (hf : X.fn x = true ∨ X.env.scope.names.lookup x = some .local := by first | exact .inl rfl | exact .inr rfl | assumption) : DS X W prot (.Assign [.Name x pos'] e pos) (dAsg (tName i) f) :=
  PS.imp (ps_set hN hi hx he hs hf) fun σ H E q => by
    obtain ⟨ρ, F, a, s, e, q⟩ := asg_core q
    refine ⟨ρ, F, a, s, e, ?_⟩
    cases a with
    | exc c ρ' => exact q
    | ok r ρ' p => exact fun v H' F' Fd P => gName_ok hp (q v H' F' Fd P)
theorem ds_asg {tg : Expr} {t : D → Rho → Option Rho} (he : DE X W e f) (hg : DG X prot tg t) (hs : swapsWithSole [tg] e pos.line X.env = pure false := by rfl) (hw : swappedStores [tg] e X.env = pure none := by rfl)
    (h1 : (assignEach [tg] X.env).map (·.2) = [assign tg X.env] := by rfl) : DS X W prot (.Assign [tg] e pos) (dAsg t f) :=
  PS.imp (ps_asg he hg hs hw h1) fun σ H E q => asg_core q

/-! ### while -/
omit [Tbs] in
def dWhile (t : EvB) (g : Sv) : Nat → Sv
  | 0 => fun _ => none
  | n + 1 => bndB .exc t fun b ρ p => if b = true then match g ρ with
      | some (.nx ρ') => dWhile t g n ρ'
      | some (.ct ρ') => dWhile t g n ρ'
      | some (.bk ρ') => some (.nx ρ')
      | o => o
    else some (.nx ρ)
theorem ds_while {c : Expr} {body : List Stmt} (n : Nat) (hp : PassesOwn (model X.prog X.w) X.A X.env X.xe) (hc : DT X W c ta) (hb : DSs X W prot body g) : DS X W prot (.While c body [] pos) (dWhile ta g n) := by
  refine PS.imp (ps_while hp hc hb) fun σ H E q => ?_
  obtain ⟨ρ, F, a, s, e, q⟩ := q
  refine ⟨fun m σ' H' => ∃ ρ' F' , PostS X.K prot σ H F ρ' σ' H' F' ∧ dWhile ta g m ρ' = some a, ⟨n, ρ, F, ⟨s, Fr.refl H F, Prot.refl⟩, e⟩, ?_⟩
  rintro m σ1 H1 ⟨ρ1, F1, P, e1⟩
  cases m with
  | zero => cases e1
  | succ m =>
    have q1 := q.from P
    refine bndBE P.s e1 q1.exc fun b ρ2 p H2 F2 e2 P2 u2 => ?_
    have q2 := q1.from P2.toS
    have P12 := P.trans (P2.toS (prot := prot))
    split at e2
    · rename_i hb
      rw [if_pos hb]
      refine ⟨fun σ' H' => ∃ ρ' F', PostS X.K prot σ H F ρ' σ' H' F' ∧ dWhile ta g m ρ' = some a, fun σ' H' z => ⟨m, Nat.lt_succ_self m, z⟩, ?_⟩
      split at e2
      · rename_i ρ3 hg
        exact ⟨ρ2, F2, _, P2.s, hg, fun σ' H' F' p => ⟨ρ3, F', P12.trans p, e2⟩⟩
      · rename_i ρ3 hg
        exact ⟨ρ2, F2, _, P2.s, hg, fun σ' H' F' p => ⟨ρ3, F', P12.trans p, e2⟩⟩
      · rename_i ρ3 hg
        cases e2
        exact ⟨ρ2, F2, _, P2.s, hg, q2⟩
      · rename_i h1 h2 h3
        refine ⟨ρ2, F2, a, P2.s, e2, q2.ends (fun ρ' ea => absurd (ea ▸ e2) (h1 ρ')) (fun ρ' ea => absurd (ea ▸ e2) (h3 ρ')) (fun ρ' ea => absurd (ea ▸ e2) (h2 ρ')) rfl⟩
    · rename_i hb
      rw [if_neg hb]
      cases e2
      exact q2 σ1 H2 F2 ⟨P2.s, Fr.refl _ _, Prot.refl⟩
end
end PD
end
section
set_option Elab.async false
set_option linter.all false
set_option autoImplicit false
set_option maxRecDepth 100000
/-! What changes things in place: methods of lists, d[k] = v, x += e; a, b = x, y; a dict written out. -/
namespace PD
open PySem PySem.Spec L2
variable [Tbs]
section
variable {X : Cx} {W : WX} {prot : List Nat} {e a b : Expr} {es : List Expr} {f fa fb : Ev} {fl : EvL} {pos : Pos}

theorem upd_keep {H : Hp} {a : Addr} {o u : HO} (h : H a = some o) (hm : MutO o = true) : (∀ b x, H b = some x → b ≠ a → upd H a u b = some x) ∧ ∀ b x, H b = some x → MutO x = false → upd H a u b = some x :=
  ⟨fun b x e n => by rw [upd_ne n]; exact e, fun b x e m => by
    have n : b ≠ a := fun z => by rw [z, h] at e; cases e; rw [hm] at m; cases m
    rw [upd_ne n]; exact e⟩
theorem Fr.upd {H : Hp} {F F' : FP} {a : Addr} {o u : HO} (h : H a = some o) (hm : OwnO o = true) (fa : F a) (k : ∀ x, F' x → F x) : Fr H F (L2.upd H a u) F' :=
  ⟨fun b x e _ n => (upd_keep h (OwnO.mut hm)).1 b x e fun z => n (z ▸ fa), fun b x e m => (upd_keep h (OwnO.mut hm)).2 b x e m, fun x z => .inl (k x z), .but h hm (upd_keep h (OwnO.mut hm)).1⟩
theorem atS {ρ : Rho} {i : Nat} {x : D} (h : (ρ[i]?).join = some x) : ρ[i]? = some (some x) := by
  cases q : ρ[i]? with
  | none => rw [q] at h; cases h
  | some y => rw [q] at h; simp [Option.join] at h; rw [h]
theorem set_none {ρ : Rho} {i : Nat} {x : D} (h : ρ[i]? = some (some x)) : (ρ.set i none)[i]? = some none := by
  have hi : i < ρ.length := (List.getElem?_eq_some_iff.mp h).1
  rw [List.getElem?_set_self hi]

/-! ### methods that change a list -/
omit [Tbs] in
/-- g: the list's items and what is given tell what is answered and the items behind -/
def MtS (K : PySem.W.Frag) (r : V → List V → Hp → VK → Prop) (g : List D → List D → Option (D × List D)) : Prop :=
  ∀ a vs ds G us es Fe H y (Q : VK), H a = some (.lst vs) → vs.length ≤ sizeLine → RepL K H vs ds G → RepL K H us es Fe → Disj Fe G → g ds es = some y →
    (∀ u vs' G' Fd, vs'.length ≤ sizeLine → RepL K H vs' y.2 G' → Rep K H u y.1 Fd → Disj Fd G' → (∀ x, G' x → G x ∨ Fe x) → (∀ x, Fd x → G x ∨ Fe x) → Q u (upd H a (.lst vs'))) → r (.ref a) us H Q
omit [Tbs] in
def dMtM (g : List D → List D → Option (D × List D)) (i : Nat) (fl : EvL) : Ev := fun ρ => match (ρ[i]?).join with
  | some (.lst _) => bndL .exc fl (fun rs ρ1 p => (takeRs ρ1 rs).bind fun z => match (z.2[i]?).join with
    | some (.lst xs) => (g xs z.1).map fun y => .ok (.own y.1) (z.2.set i (some (.lst y.2))) false
    | _ => none) ρ
  | _ => none
theorem mtm_core {r : V → List V → Hp → VK → Prop} {g : List D → List D → Option (D × List D)} {K : PySem.W.Frag} (hs : MtS K r g) {i : Nat} {σ : St} {H : Hp} {Q : VK} (h : wpE K W (dMtM g i fl) σ H Q) :
    ∃ v, σ[i]? = some (some v) ∧ tyV K "list" v H ∧ wpL K W fl σ H fun vs H2 => r v vs H2 Q := by
  obtain ⟨ρ, F, a, s, e, q⟩ := h
  unfold dMtM at e
  split at e
  · rename_i xs0 h0
    obtain ⟨v, Fi, hv, rv, _⟩ := s.get (atS h0)
    obtain ⟨l, vs0, G0, rfl, hl0, _, _, _, _⟩ := rv.lst_inv
    refine ⟨_, hv, .inl ⟨rfl, _, SqL.of hl0⟩, ?_⟩
    refine bndLE s e q.exc fun rs ρ1 p us H1 F1 Fd e1 P1 => ?_
    cases et : takeRs ρ1 rs with
    | none => rw [et] at e1; cases e1
    | some z =>
      obtain ⟨es, ρ2⟩ := z
      rw [et] at e1
      simp only [Option.bind_some] at e1
      obtain ⟨F2, Fe, s2, r2, dj2, k1, k2⟩ := takeRs_ok P1.s P1.r P1.dj et
      split at e1
      · rename_i xs hx
        cases eg : g xs es with
        | none => rw [eg] at e1; cases e1
        | some y =>
          rw [eg] at e1; cases e1
          have hx' := atS hx
          obtain ⟨v', Fi', F3, hv', rv', s3, dj3, e3⟩ := s2.take hx'
          rw [hv] at hv'; cases hv'
          obtain ⟨l', vs, G, el, hl, hlen, rl, nl, el'⟩ := rv'.lst_inv
          cases el
          refine hs l vs xs G us es Fe H1 y Q hl hlen rl r2 (fun x f g => dj2 x f ((e3 x).mpr (.inl ((el' x).mpr (.inr g))))) eg fun u vs' G' Fu hlen' rl' ru dju kG kF => ?_
          have nFe : ¬ Fe l := fun z => dj2 l z ((e3 l).mpr (.inl ((el' l).mpr (.inl rfl))))
          have nG' : ¬ G' l := fun z => (kG l z).elim nl nFe
          have nFu : ¬ Fu l := fun z => (kF l z).elim nl nFe
          have n3 : ¬ F3 l := fun z => dj3 l ((el' l).mpr (.inl rfl)) z
          have uk := upd_keep (u := .lst vs') hl rfl
          have rl2 : RepL K (L2.upd H1 l (.lst vs')) vs' y.2 G' := rl'.keep (fun b o g h => uk.1 b o h fun z => nG' (z ▸ g)) uk.2
          have ru2 : Rep K (L2.upd H1 l (.lst vs')) u y.1 Fu := ru.keep (fun b o g h => uk.1 b o h fun z => nFu (z ▸ g)) uk.2
          have s4 : RepS K (L2.upd H1 l (.lst vs')) σ (ρ2.set i none) F3 := s3.keep (fun b o g h => uk.1 b o h fun z => n3 (z ▸ g)) uk.2 (.but hl rfl uk.1)
          have rn : Rep K (L2.upd H1 l (.lst vs')) (.ref l) (.lst y.2) (fun x => x = l ∨ G' x) := .lst upd_same hlen' rl2 nG' fun _ => Iff.rfl
          have G3 : Disj G F3 := fun x g w => dj3 x ((el' x).mpr (.inr g)) w
          have Fe3 : Disj Fe F3 := fun x g w => dj2 x g ((e3 x).mpr (.inr w))
          have dj5 : Disj (fun x => x = l ∨ G' x) F3 := fun x z w => by
            rcases z with z | z
            · exact n3 (z ▸ w)
            · exact (kG x z).elim (fun g => G3 x g w) fun g => Fe3 x g w
          have s5 := s4.fill (i := i) (set_none hx') hv rn dj5
          rw [List.set_set] at s5
          refine q u _ _ Fu ⟨s5, ru2, ?_, ?_, fun z => by cases z⟩
          · rintro x f ((z | z) | z)
            · exact nFu (z ▸ f)
            · exact dju x f z
            · exact (kF x f).elim (fun g => G3 x g z) fun g => Fe3 x g z
          · refine P1.fr.trans (Fr.upd hl rfl (.inl (k1 l ((e3 l).mpr (.inl ((el' l).mpr (.inl rfl)))))) ?_)
            have inF : ∀ x, G x ∨ Fe x → orF F1 Fd x := fun x z => z.elim (fun g => .inl (k1 x ((e3 x).mpr (.inl ((el' x).mpr (.inr g)))))) (k2 x)
            rintro x (((z | z) | z) | z)
            · exact z ▸ .inl (k1 l ((e3 l).mpr (.inl ((el' l).mpr (.inl rfl)))))
            · exact inF x (kG x z)
            · exact .inl (k1 x ((e3 x).mpr (.inr z)))
            · exact inF x (kF x z)
      · cases e1
  · cases e
section
variable {x name : Str} {id : String} {apos px : Pos} {r : V → List V → Hp → VK → Prop} {g : List D → List D → Option (D × List D)}
theorem de_mtm (i : Nat) (pa : PySem.PlainAttrs "list") (slot : PySem.Slot "list" name id) (hty : typeOf (.builtin id) = pure (.type "method_descriptor")) (hm : MtR X id r) (hg : MtS X.K r g) (ha : DL X W (e :: es) fl) (hN : X.N[i]? = some x := by rfl) (hvs : Vis X.env.scope x := by first | exact Or.inl rfl | exact Or.inr (Or.inl rfl) | exact Or.inr (Or.inr rfl)) (hd : (x == ("__debug__" : Str)) = false := by decide)
    (hcd : (x == ("__classdict__" : Str)) = false := by decide)
    (hbase : attributeBase (.Name x px) name X.env (eval (.Name x px) X.env) = eval (.Name x px) X.env := by rfl)
    (hfew : ((backTo pos (starEach (e :: es) X.env)).all (fun x => !x.1) && (backToKw pos (keywordEach [] X.env)).all (fun x => x.1.isSome)
      && decide ((e :: es).length + ([] : List Keyword).length + (if ([] : List Keyword).isEmpty then 0 else 1) < 30)) = true := by rfl)
    (hline : (apos.endLine == pos.line) = true := by rfl) (hs : starEach (e :: es) X.env = (false, eval e X.env) :: starEach es X.env := by rfl) (hplain : (backTo pos (starEach es X.env)).any (·.1) = false := by rfl) :
    DE X W (.Call (.Attribute (.Name x px) name apos) (e :: es) [] pos) (dMtM g i fl) := by
  refine PE.imp (pe_bm pa slot hty hm (pe_var hN hvs hd hcd) ha hbase hfew hline hs hplain) fun σ H Q h => ?_
  obtain ⟨v, h1, h2, h3⟩ := mtm_core hg h
  exact ⟨v, h1, h2, h3⟩
theorem de_mtm0 (i : Nat) (pa : PySem.PlainAttrs "list") (slot : PySem.Slot "list" name id) (hty : typeOf (.builtin id) = pure (.type "method_descriptor")) (hm : MtR X id r) (hg : MtS X.K r g) (hN : X.N[i]? = some x := by rfl) (hvs : Vis X.env.scope x := by first | exact Or.inl rfl | exact Or.inr (Or.inl rfl) | exact Or.inr (Or.inr rfl)) (hd : (x == ("__debug__" : Str)) = false := by decide)
    (hcd : (x == ("__classdict__" : Str)) = false := by decide)
    (hbase : attributeBase (.Name x px) name X.env (eval (.Name x px) X.env) = eval (.Name x px) X.env := by rfl)
    (hline : (apos.endLine == pos.line) = true := by rfl) :
    DE X W (.Call (.Attribute (.Name x px) name apos) [] [] pos) (dMtM g i dNil) := by
  refine PE.imp (pe_bm0 pa slot hty hm (pe_var hN hvs hd hcd) hbase hline) fun σ H Q h => ?_
  obtain ⟨v, h1, h2, h3⟩ := mtm_core hg h
  refine ⟨v, h1, h2, ?_⟩
  obtain ⟨ρ, F, a, s, e, q⟩ := h3
  cases e
  exact q [] H F (fun _ => False) ⟨s, .nil fun _ z => z, fun _ z => z.elim, (Fr.refl H F).less fun a z => z.elim (fun z => z) False.elim, fun _ => Sm.refl H⟩
end
omit [Tbs] in
def gApp : List D → List D → Option (D × List D) := fun xs ys => match ys with
  | [y] => if xs.length < LIM then some (.non, xs ++ [y]) else none
  | _ => none
theorem mts_app {K : PySem.W.Frag} : MtS K rAppend gApp := by
  intro a vs ds G us es Fe H y Q h1 h2 rl re dj e q
  unfold gApp at e
  split at e
  · rename_i d
    split at e
    · rename_i hl
      cases e
      have hlen := rl.length
      cases re with
      | cons r1 rn n e0 =>
        rename_i v us F1 F2
        cases rn with
        | nil e1 =>
          refine ⟨a, vs, v, rfl, rfl, h1, lim_lt (by omega), ?_⟩
          have r1' : RepL K H [v] [d] Fe := .cons r1 (.nil e1) n e0
          exact q .non _ (fun x => G x ∨ Fe x) (fun _ => False) (by rw [List.length_append]; exact lim_line (by show vs.length + 1 ≤ LIM; omega)) (rl.append r1' (fun x g f => dj x f g) fun _ => Iff.rfl) (.non fun _ z => z) (fun _ z => z.elim) (fun _ z => z) fun _ z => z.elim
    · cases e
  · cases e
omit [Tbs] in
def gPop : List D → List D → Option (D × List D) := fun xs ys => match ys with
  | [] => xs.getLast?.map fun y => (y, xs.dropLast)
  | _ => none
theorem mts_pop {K : PySem.W.Frag} : MtS K rPop gPop := by
  intro a vs ds G us es Fe H y Q h1 h2 rl re dj e q
  unfold gPop at e
  split at e
  · cases re with
    | nil e0 =>
      cases hl : ds.getLast? with
      | none => rw [hl] at e; cases e
      | some d =>
        rw [hl] at e; cases e
        have hlen := rl.length
        have hne : ds ≠ [] := fun z => by rw [z] at hl; cases hl
        have hp : 0 < ds.length := List.length_pos_iff.mpr hne
        obtain ⟨G1, G2, r1, r2, dj12, e12⟩ := rl.sub (ds.length - 1)
        have ed : ds.drop (ds.length - 1) = [d] := by
          rw [List.getLast?_eq_getElem?] at hl
          have h := List.getElem?_eq_some_iff.mp hl
          obtain ⟨h3, h4⟩ := h
          rw [List.drop_eq_getElem_cons h3, h4, List.drop_of_length_le (by omega)]
        rw [ed] at r2
        generalize hvd : vs.drop (ds.length - 1) = vd at r2
        cases r2 with
        | cons rv rn n e1 =>
          rename_i v vr F1 F2
          cases rn with
          | nil e2 =>
            have hv : vs[vs.length - 1]? = some v := by
              have : (vs.drop (ds.length - 1))[0]? = some v := by rw [hvd]; rfl
              rw [List.getElem?_drop] at this
              rw [hlen]; simpa using this
            refine ⟨a, vs, v, rfl, rfl, h1, hv, ?_⟩
            rw [List.dropLast_eq_take, hlen]
            refine q v _ G1 G2 (by rw [List.length_take]; omega) (by rw [List.dropLast_eq_take]; exact r1) (rv.congr fun x => by rw [e1]; simp [e2]) (fun x f g => dj12 x g f) (fun x g => .inl ((e12 x).mpr (.inl g))) fun x g => .inl ((e12 x).mpr (.inr g))
  · cases e
omit [Tbs] in
noncomputable def gPopAt : List D → List D → Option (D × List D) := fun xs ys => match ys with
  | [.int i] => if 0 ≤ i ∧ smallI i = true then (xs[i.toNat]?).map fun y => (y, xs.eraseIdx i.toNat) else none
  | _ => none
theorem RepL.erase {K : PySem.W.Frag} {H : Hp} : ∀ {vs ds G}, RepL K H vs ds G → ∀ {k : Nat} {d : D}, ds[k]? = some d →
    ∃ v G1 G2, vs[k]? = some v ∧ Rep K H v d G1 ∧ RepL K H (vs.eraseIdx k) (ds.eraseIdx k) G2 ∧ Disj G1 G2 ∧ (∀ x, G x ↔ (G1 x ∨ G2 x))
  | _, _, _, .nil e, k, d, h => by simp at h
  | _, _, _, .cons (v := v) (F1 := F1) (F2 := F2) r s n e, 0, d, h => by
    simp at h; subst h
    exact ⟨v, F1, F2, rfl, r, s, n, e⟩
  | _, _, _, .cons (v := v) (F1 := F1) (F2 := F2) r s n e, k + 1, d, h => by
    obtain ⟨v', G1, G2, h1, h2, h3, h4, h5⟩ := RepL.erase s (k := k) (d := d) (by simpa using h)
    refine ⟨v', G1, fun x => F1 x ∨ G2 x, by simpa using h1, h2, ?_, ?_, ?_⟩
    · rw [List.eraseIdx_cons_succ, List.eraseIdx_cons_succ]
      exact .cons r h3 (fun x f g => n x f ((h5 x).mpr (.inr g))) fun _ => Iff.rfl
    · rintro x f (g | g)
      · exact n x g ((h5 x).mpr (.inl f))
      · exact h4 x f g
    · intro x
      rw [e, h5]
      constructor
      · rintro (z | z | z)
        · exact .inr (.inl z)
        · exact .inl z
        · exact .inr (.inr z)
      · rintro (z | z | z)
        · exact .inr (.inl z)
        · exact .inl z
        · exact .inr (.inr z)
theorem mts_popAt {K : PySem.W.Frag} : MtS K rPopAt gPopAt := by
  intro a vs ds G us es Fe H y Q h1 h2 rl re dj e q
  unfold gPopAt at e
  split at e
  · rename_i i
    split at e
    · rename_i hi
      have hi : 0 ≤ i ∧ i ≤ 1000000 := ⟨hi.1, by have := hi.2; rw [smallI_eq] at this; exact (of_decide_eq_true this).2⟩
      cases hl : ds[i.toNat]? with
      | none => rw [hl] at e; cases e
      | some d =>
        rw [hl] at e; cases e
        cases re with
        | cons r1 rn n e0 =>
          rename_i v us F1 F2
          cases rn
          obtain rfl := r1.int_inv
          obtain ⟨v, G1, G2, g1, g2, g3, g4, g5⟩ := rl.erase hl
          have hlt : i.toNat < vs.length := (List.getElem?_eq_some_iff.mp g1).1
          have hsi : seqIndex? i vs.length = some i.toNat := by
            have e1 : ixN vs.length i = some i.toNat := by
              unfold ixN
              rw [if_pos hi.1, if_pos (by omega)]
            exact (ixN_seq e1).1
          refine ⟨a, vs, i, i.toNat, v, rfl, rfl, h1, by omega, by omega, hsi, g1, ?_⟩
          exact q v _ G2 G1 (Nat.le_trans (List.length_eraseIdx_le vs i.toNat) h2) g3 g2 g4 (fun x g => .inl ((g5 x).mpr (.inr g))) fun x g => .inl ((g5 x).mpr (.inl g))
    · cases e
  · cases e
end
end PD
end
section
set_option Elab.async false
set_option linter.all false
set_option autoImplicit false
set_option maxRecDepth 100000
/-! d[k] = v, d[k].pop(), x += e, a, b = x, y, a dict written out, xs.index(y). -/
namespace PD
open PySem PySem.Spec L2
variable [Tbs]
section
variable {X : Cx} {W : WX} {prot : List Nat} {e a b : Expr} {es : List Expr} {f fa fb fk fv : Ev} {fl : EvL} {pos : Pos}

/-! ### d[k] = v -/
theorem or3 {A B C : Prop} : (A ∨ (B ∨ C)) ↔ (B ∨ (A ∨ C)) := by
  constructor
  · rintro (z | z | z)
    · exact .inr (.inl z)
    · exact .inl z
    · exact .inr (.inr z)
  · rintro (z | z | z)
    · exact .inr (.inl z)
    · exact .inl z
    · exact .inr (.inr z)
theorem RepK.snoc {K : PySem.W.Frag} {H : Hp} {k : Key} {v : V} {d : D} {E : FP} (r : Rep K H v d E) : ∀ {vs ds G}, RepK K H vs ds G → Disj E G → RepK K H (vs ++ [(k, v)]) (ds ++ [(k, d)]) fun x => E x ∨ G x
  | _, _, _, .nil e, dj => .cons r (.nil (F := fun _ => False) fun _ z => z) (fun _ _ z => z) fun x => by simp [e]
  | _, _, _, .cons (F1 := F1) (F2 := F2) q s n e, dj => by
    refine .cons q (RepK.snoc r s fun x f g => dj x f ((e x).mpr (.inr g))) ?_ ?_
    · rintro x f (g | g)
      · exact dj x g ((e x).mpr (.inl f))
      · exact n x f g
    · intro x; rw [e]; exact or3
theorem RepK.mapI {K : PySem.W.Frag} {H : Hp} {k : Key} {v : V} {d : D} (r : Rep K H v d fun _ => False) : ∀ {vs ds G}, RepK K H vs ds G →
    ∃ G', RepK K H (vs.map fun kv => if kv.1 = k then (kv.1, v) else kv) (ds.map fun kv => if kv.1 = k then (kv.1, d) else kv) G' ∧ ∀ x, G' x → G x
  | _, _, G, .nil e => ⟨G, .nil e, fun _ z => z⟩
  | _, _, _, .cons (k := j) (v := w) (d := c) (F1 := F1) (F2 := F2) q s n e => by
    obtain ⟨G', h1, h2⟩ := RepK.mapI r s (k := k)
    by_cases h : j = k
    · refine ⟨G', ?_, fun x g => (e x).mpr (.inr (h2 x g))⟩
      simp only [List.map_cons, h, if_true]
      exact .cons r h1 (fun _ z => z.elim) fun x => by simp
    · refine ⟨fun x => F1 x ∨ G' x, ?_, fun x g => (e x).mpr (g.imp (fun z => z) (h2 x))⟩
      simp only [List.map_cons, if_neg h]
      exact .cons q h1 (fun x f g => n x f (h2 x g)) fun _ => Iff.rfl
theorem RepK.anyK {K : PySem.W.Frag} {H : Hp} {k : Key} {vs ds G} (r : RepK K H vs ds G) : (vs.any fun kv => decide (kv.1 = k)) = ds.any fun kv => decide (kv.1 = k) := by
  have h := r.keys
  have e1 : (vs.any fun kv => decide (kv.1 = k)) = (vs.map (·.1)).any fun j => decide (j = k) := by rw [List.any_map]; rfl
  have e2 : (ds.any fun kv => decide (kv.1 = k)) = (ds.map (·.1)).any fun j => decide (j = k) := by rw [List.any_map]; rfl
  rw [e1, e2, h]
theorem RepK.put {K : PySem.W.Frag} {H : Hp} {k : Key} {v : V} {d : D} {E G : FP} {vs : List (Key × V)} {ds : List (Key × D)} (s : RepK K H vs ds G) (r : Rep K H v d E) (dj : Disj E G) (ok : d.imm = true ∨ (ds.any fun kv => decide (kv.1 = k)) = false) :
    ∃ G', RepK K H (putK vs k v) (putD ds k d) G' ∧ ∀ x, G' x → G x ∨ E x := by
  unfold putK putD
  rw [s.anyK]
  by_cases h : (ds.any fun kv => decide (kv.1 = k)) = true
  · rw [if_pos h, if_pos h]
    rcases ok with ok | ok
    · obtain ⟨G', h1, h2⟩ := s.mapI (r.thin ok) (k := k)
      exact ⟨G', h1, fun x g => .inl (h2 x g)⟩
    · rw [ok] at h; cases h
  · rw [if_neg h, if_neg h]
    exact ⟨_, s.snoc r dj, fun x z => z.symm⟩
omit [Tbs] in
def dPut (i : Nat) (fk fv : Ev) : Sv := bnd .exc fv fun rv ρ1 p1 => (takeR ρ1 rv).bind fun z => match (z.2[i]?).join with
  | some (.dic _) => bnd .exc fk (fun rk ρ2 p2 => match (rk.rd ρ2).bind D.key, (ρ2[i]?).join with
    | some k, some (.dic kvs) => if kvs.length < LIM ∧ (z.1.imm = true ∨ (kvs.any fun kv => decide (kv.1 = k)) = false) then some (.nx (ρ2.set i (some (.dic (putD kvs k z.1))))) else none
    | _, _ => none) z.2
  | _ => none
theorem ds_put (i : Nat) {x : Str} {px pos' : Pos} (hu : X.A.units + 1 < cLine) (hi : DE X W a fk) (hv : DE X W b fv) (hN : X.N[i]? = some x := by rfl) (hvs : Vis X.env.scope x := by first | exact Or.inl rfl | exact Or.inr (Or.inl rfl) | exact Or.inr (Or.inr rfl)) (hd : (x == ("__debug__" : Str)) = false := by decide)
    (hcd : (x == ("__classdict__" : Str)) = false := by decide) (hs : swapsWith b (some (.Subscript (.Name x px) a pos')) pos.line X.env = pure false := by rfl) :
    DS X W prot (.Assign [.Subscript (.Name x px) a pos'] b pos) (dPut i fk fv) := by
  refine PS.imp (ps_dput hu (pe_var hN hvs hd hcd) hi hv hs) fun σ H E h => ?_
  obtain ⟨ρ, F, a, s, e, q⟩ := h
  have qx := q.exc
  refine bndE s e qx fun r ρ1 p v H1 F1 Fd e1 P1 => ?_
  cases et : takeR ρ1 r with
  | none => rw [et] at e1; cases e1
  | some z =>
    obtain ⟨d, ρ2⟩ := z
    rw [et] at e1
    simp only [Option.bind_some] at e1
    obtain ⟨F2, Fe, s2, r2, dj2, k1, k2⟩ := takeR_ok P1.s P1.r P1.dj et
    have fr2 : Fr H F H1 (orF F2 Fe) := P1.fr.less fun a z => z.elim (fun z => .inl (k1 a z)) (k2 a)
    split at e1
    · rename_i kvs0 h0
      obtain ⟨w, Fi, hw, rw', _⟩ := s2.get (atS h0)
      refine ⟨w, hw, ?_⟩
      refine bndE s2 e1 (fun c ρ' ea H' F' hx => qx c ρ' ea H' F' ⟨hx.s, (fr2.less fun a z => .inl z : Fr H F H1 F2).trans hx.fr⟩) fun rk ρ3 p3 y H3 F3 Fy e3 P3 => ?_
      split at e3
      · rename_i k kvs hk hx
        split at e3
        · rename_i hc
          cases e3
          have hx' := atS hx
          obtain ⟨w', Fi', F4, hw', rv', s4, dj4, e4⟩ := P3.s.take hx'
          rw [hw] at hw'; cases hw'
          obtain ⟨l, vs, G, rfl, hl, rl, nl, el⟩ := rv'.dic_inv
          have hky : y = kV k := by
            cases er : rk.rd ρ3 with
            | none => rw [er] at hk; cases hk
            | some dk =>
              rw [er] at hk
              obtain ⟨Gk, gk, _⟩ := P3.r.rd P3.s er
              exact gk.key hk
          subst hky
          have rd3 : Rep X.K H3 v d Fe := P3.fr.rep r2 dj2
          have ap : Disj Fe (orF F3 Fy) := P3.fr.apart (dom_ne r2.dom) dj2
          have inF3 : ∀ x, Fi' x ∨ F4 x → F3 x := fun x z => (e4 x).mpr z
          obtain ⟨G', hp1, hp2⟩ := rl.put (k := k) rd3 (fun x f g => ap x f (.inl (inF3 x (.inl ((el x).mpr (.inr g)))))) hc.2
          have hlen : vs.length < sizeLine := by rw [rl.length]; exact lim_lt (Nat.le_of_lt hc.1)
          refine ⟨l, _, rfl, DPut.k hl hlen, ?_⟩
          have nFe : ¬ Fe l := fun z => ap l z (.inl (inF3 l (.inl ((el l).mpr (.inl rfl)))))
          have nG' : ¬ G' l := fun z => (hp2 l z).elim nl nFe
          have n4 : ¬ F4 l := fun z => dj4 l ((el l).mpr (.inl rfl)) z
          have uk := upd_keep (u := .dK (putK vs k v)) hl rfl
          have hp3 : RepK X.K (L2.upd H3 l (.dK (putK vs k v))) (putK vs k v) (putD kvs k d) G' := hp1.keep (fun b o g h => uk.1 b o h fun z => nG' (z ▸ g)) uk.2
          have s5 : RepS X.K (L2.upd H3 l (.dK (putK vs k v))) σ (ρ3.set i none) F4 := s4.keep (fun b o g h => uk.1 b o h fun z => n4 (z ▸ g)) uk.2 (.but hl rfl uk.1)
          have rn : Rep X.K (L2.upd H3 l (.dK (putK vs k v))) (.ref l) (.dic (putD kvs k d)) (fun x => x = l ∨ G' x) := .dic upd_same hp3 nG' fun _ => Iff.rfl
          have dj5 : Disj (fun x => x = l ∨ G' x) F4 := fun x z w => by
            rcases z with z | z
            · exact n4 (z ▸ w)
            · exact (hp2 x z).elim (fun g => dj4 x ((el x).mpr (.inr g)) w) fun g => ap x g (.inl (inF3 x (.inr w)))
          have s6 := s5.fill (i := i) (set_none hx') hw rn dj5
          rw [List.set_set] at s6
          refine q σ _ _ ⟨s6, ?_, Prot.refl⟩
          have fr3 : Fr H1 (orF F2 Fe) H3 (orF (orF F3 Fy) Fe) := (P3.fr.wide (dom_ne r2.dom))
          refine (fr2.trans fr3).trans (Fr.upd hl rfl (.inl (.inl (inF3 l (.inl ((el l).mpr (.inl rfl)))))) ?_)
          rintro x ((z | z) | z)
          · exact z ▸ .inl (.inl (inF3 l (.inl ((el l).mpr (.inl rfl)))))
          · exact (hp2 x z).elim (fun g => .inl (.inl (inF3 x (.inl ((el x).mpr (.inr g)))))) .inr
          · exact .inl (.inl (inF3 x (.inr z)))
        · cases e3
      · cases e3
    · cases e1

/-! ### d['k'].pop() -/
omit [Tbs] in
def modD : List (Key × D) → Key → D → List (Key × D)
  | [], _, _ => []
  | (j, c) :: r, k, d => if j = k then (j, d) :: r else (j, c) :: modD r k d
theorem RepK.focus {K : PySem.W.Frag} {H : Hp} {k : Key} {d : D} : ∀ {vs ds G}, RepK K H vs ds G → getD ds k = some d →
    ∃ v Gv Gr, valV vs k = some v ∧ Rep K H v d Gv ∧ Disj Gv Gr ∧ (∀ x, G x ↔ (Gv x ∨ Gr x)) ∧
      ∀ (H' : Hp) (d' : D) (Gv' : FP), Rep K H' v d' Gv' → (∀ a o, Gr a → H a = some o → H' a = some o) → (∀ a o, H a = some o → MutO o = false → H' a = some o) → Disj Gv' Gr → RepK K H' vs (modD ds k d') fun x => Gv' x ∨ Gr x
  | _, _, _, .nil _, h => by simp [getD] at h
  | _, _, _, .cons (k := j) (v := v) (d := c) (F1 := F1) (F2 := F2) r s n e, h => by
    by_cases hj : j = k
    · have hc : c = d := by simpa [getD, hj] using h
      subst hc
      refine ⟨v, F1, F2, by simp [valV, hj], r, n, e, fun H' d' Gv' r' kf ki dj => ?_⟩
      rw [modD, if_pos hj]
      exact .cons r' (s.keep kf ki) dj fun _ => Iff.rfl
    · obtain ⟨v', Gv, Gr, h1, h2, h3, h4, h5⟩ := RepK.focus s (by simpa [getD, hj] using h)
      refine ⟨v', Gv, fun x => F1 x ∨ Gr x, by simpa [valV, hj] using h1, h2, ?_, ?_, fun H' d' Gv' r' kf ki dj => ?_⟩
      · rintro x f (g | g)
        · exact n x g ((h4 x).mpr (.inl f))
        · exact h3 x f g
      · intro x; rw [e, h4]; exact or3
      · rw [modD, if_neg hj]
        refine .cons (r.keep (fun a o g => kf a o (.inl g)) ki) (h5 H' d' Gv' r' (fun a o g => kf a o (.inr g)) ki fun x f g => dj x f (.inr g)) ?_ ?_
        · rintro x f (g | g)
          · exact dj x g (.inl f)
          · exact n x f ((h4 x).mpr (.inr g))
        · intro x; exact or3
omit [Tbs] in
def dPopK (i : Nat) (k : Key) : Ev := fun ρ => match (ρ[i]?).join with
  | some (.dic kvs) => match getD kvs k with
    | some (.lst xs) => (gPop xs []).map fun y => .ok (.own y.1) (ρ.set i (some (.dic (modD kvs k (.lst y.2))))) false
    | _ => none
  | _ => none
theorem de_popK (i : Nat) {x k : Str} {j : Nat} {px p2 p3 apos : Pos} (hu : X.A.units + 1 < cLine) (hN : X.N[i]? = some x := by rfl) (hvs : Vis X.env.scope x := by first | exact Or.inl rfl | exact Or.inr (Or.inl rfl) | exact Or.inr (Or.inr rfl)) (hd : (x == ("__debug__" : Str)) = false := by decide)
    (hcd : (x == ("__classdict__" : Str)) = false := by decide)
    (hbase : attributeBase (.Subscript (.Name x px) (.Constant (.str k) j p2) p3) ("pop" : Str) X.env (eval (.Subscript (.Name x px) (.Constant (.str k) j p2) p3) X.env) = eval (.Subscript (.Name x px) (.Constant (.str k) j p2) p3) X.env := by rfl)
    (hline : (apos.endLine == pos.line) = true := by rfl) (hsl : NoSl (.Constant (.str k) j p2) := by intro _ _; rfl) :
    DE X W (.Call (.Attribute (.Subscript (.Name x px) (.Constant (.str k) j p2) p3) "pop" apos) [] [] pos) (dPopK i (.inr k)) := by
  refine PE.imp (pe_bm0 PySem.F.plainAttrs_list PySem.F.slot_list_pop PySem.F.type_list_pop mt_pop (pe_dget hu (pe_var hN hvs hd hcd) pe_str hsl) hbase hline) fun σ H Q h => ?_
  obtain ⟨ρ, F, a, s, e, q⟩ := h
  unfold dPopK at e
  split at e
  · rename_i kvs h0
    split at e
    · rename_i xs hg
      cases eg : gPop xs [] with
      | none => rw [eg] at e; cases e
      | some y =>
        rw [eg] at e; cases e
        have h0' := atS h0
        obtain ⟨v, Fi, F', hv, rv, s', dj, ef⟩ := s.take h0'
        obtain ⟨l, vs, G, rfl, hl, rl, nl, el⟩ := rv.dic_inv
        obtain ⟨w, Gv, Gr, h1, h2, h3, h4, h5⟩ := rl.focus hg
        obtain ⟨b, us, Gb, rfl, hb, hblen, rb, nb, eb⟩ := h2.lst_inv
        refine ⟨_, hv, l, .ref b, rfl, ?_, ?_⟩
        · have := DGet.k (H := H) (k := Sum.inr k) hl
          rw [h1] at this
          exact this
        · refine ⟨.inl ⟨rfl, _, SqL.of hb⟩, ?_⟩
          refine mts_pop b us xs Gb [] [] (fun _ => False) H y Q hb hblen rb (.nil fun _ z => z) (fun _ z => z.elim) eg fun u us' Gb' Fu hlen' rb' ru dju kG kF => ?_
          have kG' : ∀ x, Gb' x → Gb x := fun x z => (kG x z).elim (fun z => z) False.elim
          have kF' : ∀ x, Fu x → Gb x := fun x z => (kF x z).elim (fun z => z) False.elim
          have uk := upd_keep (u := .lst us') hb rfl
          have inG : ∀ x, Gv x ∨ Gr x → G x := fun x z => (h4 x).mpr z
          have bGv : Gv b := (eb b).mpr (.inl rfl)
          have hGv : ∀ x, Gb x → Gv x := fun x z => (eb x).mpr (.inr z)
          have nr : ¬ Gr b := fun z => h3 b bGv z
          have hbl : b ≠ l := fun z => nl (inG l (.inl (z ▸ bGv)))
          have nF' : ¬ F' b := fun z => dj b ((el b).mpr (.inr (inG b (.inl bGv)))) z
          have rn : Rep X.K (L2.upd H b (.lst us')) (.ref b) (.lst y.2) fun x => x = b ∨ Gb' x :=
            .lst upd_same hlen' (rb'.keep (fun c o g h => uk.1 c o h fun z => nb (z ▸ kG' c g)) uk.2) (fun z => nb (kG' b z)) fun _ => Iff.rfl
          have rk := h5 (L2.upd H b (.lst us')) (.lst y.2) _ rn (fun c o g h => uk.1 c o h fun z => nr (z ▸ g)) uk.2 (by
            rintro x (z | z) g
            · exact nr (z ▸ g)
            · exact h3 x (hGv x (kG' x z)) g)
          have hl' : L2.upd H b (.lst us') l = some (.dK vs) := by rw [upd_ne (Ne.symm hbl)]; exact hl
          have ind : ∀ x, ((x = b ∨ Gb' x) ∨ Gr x) → G x := fun x z => by
            rcases z with (z | z) | z
            · exact inG x (.inl (z ▸ bGv))
            · exact inG x (.inl (hGv x (kG' x z)))
            · exact inG x (.inr z)
          have rd : Rep X.K (L2.upd H b (.lst us')) (.ref l) (.dic (modD kvs (.inr k) (.lst y.2))) fun x => x = l ∨ ((x = b ∨ Gb' x) ∨ Gr x) := .dic hl' rk (fun z => nl (ind l z)) fun _ => Iff.rfl
          have inFi : ∀ x, (x = l ∨ ((x = b ∨ Gb' x) ∨ Gr x)) → Fi x := fun x z => (el x).mpr (z.imp (fun z => z) (ind x))
          have s5 : RepS X.K (L2.upd H b (.lst us')) σ (ρ.set i none) F' := s'.keep (fun c o g h => uk.1 c o h fun z => nF' (z ▸ g)) uk.2 (.but hb rfl uk.1)
          have s6 := s5.fill (i := i) (set_none h0') hv rd fun x z w => dj x (inFi x z) w
          rw [List.set_set] at s6
          have nu : ¬ Fu b := fun z => nb (kF' b z)
          refine q u _ _ Fu ⟨s6, ru.keep (fun c o g h => uk.1 c o h fun z => nu (z ▸ g)) uk.2, ?_, ?_, fun z => by cases z⟩
          · rintro x f ((z | ((z | z) | z)) | z)
            · exact nl (z ▸ inG x (.inl (hGv x (kF' x f))))
            · exact nu (z ▸ f)
            · exact dju x f z
            · exact h3 x (hGv x (kF' x f)) z
            · exact dj x ((el x).mpr (.inr (inG x (.inl (hGv x (kF' x f)))))) z
          · refine Fr.upd hb rfl ((ef b).mpr (.inl ((el b).mpr (.inr (inG b (.inl bGv)))))) ?_
            rintro x ((z | z) | z)
            · exact (ef x).mpr (.inl (inFi x z))
            · exact (ef x).mpr (.inr z)
            · exact (ef x).mpr (.inl ((el x).mpr (.inr (inG x (.inl (hGv x (kF' x z)))))))
    · cases e
  · cases e

/-! ### x += e of numbers -/
omit [Tbs] in
def dAugI (op : Int → Int → Int) (i : Nat) (f : Ev) : Sv := fun ρ => match (ρ[i]?).join with
  | some (.int m) => bnd .exc f (fun r ρ1 p => match r.rd ρ1 with
    | some (.int n) => some (.nx (ρ1.set i (some (.int (op m n)))))
    | _ => none) ρ
  | _ => none
theorem ds_aug (i : Nat) {x : Str} {px : Pos} {op : Operator} {g : Int → Int → Int} (hN : X.N.Nodup) (ho : PIp X op (ipI g)) (he : DE X W e f) (hp : i ∉ prot := by decide) (hi : X.N[i]? = some x := by rfl) (hx : Loc X.env.scope x := by first | exact Or.inl rfl | exact Or.inr rfl)
    (hf : X.fn x = true ∨ X.env.scope.names.lookup x = some .local := by first | exact .inl rfl | exact .inr rfl | assumption) : DS X W prot (.AugAssign (.Name x px) op e pos) (dAugI g i f) := by
  refine PS.imp (ps_aug hN hi hx he ho hf) fun σ H E h => ?_
  obtain ⟨ρ, F, a, s, e, q⟩ := h
  unfold dAugI at e
  split at e
  · rename_i m h0
    obtain ⟨v, Fi, hv, rv, _⟩ := s.get (atS h0)
    obtain rfl := rv.int_inv
    refine ⟨_, hv, ?_⟩
    refine bndE s e q.exc fun r ρ1 p v H1 F1 Fd e1 P1 => ?_
    split at e1
    · rename_i n hn
      cases e1
      obtain ⟨G, g', _⟩ := P1.r.rd P1.s hn
      refine ⟨m, n, rfl, g'.int_inv, ?_⟩
      obtain ⟨F', s', k⟩ := P1.s.store (i := i) (v := .int (g m n)) (d := .int (g m n)) (G := fun _ => False) (.int _ fun _ z => z) fun _ z => z.elim
      refine q _ H1 F' ⟨s', P1.fr1.less fun x z => (k x z).elim False.elim fun z => z, by simp, fun j hj => ?_⟩
      rw [List.getElem?_set_ne (show i ≠ j from fun z => hp (by rw [z]; exact hj))]
    · cases e1
  · cases e

/-! ### a, b = x, y -/
theorem RepL.two {K : PySem.W.Frag} {H : Hp} {vs : List V} {c d : D} {G : FP} (r : RepL K H vs [c, d] G) : ∃ v w Fa Fb, vs = [v, w] ∧ Rep K H v c Fa ∧ Rep K H w d Fb ∧ Disj Fa Fb ∧ ∀ x, G x ↔ (Fa x ∨ Fb x) := by
  cases r with
  | cons r1 rn n e0 =>
    cases rn with
    | cons r1' rn' n' e0' =>
      cases rn' with
      | nil e3 =>
        exact ⟨_, _, _, _, rfl, r1, r1', fun x f g => n x f ((e0' x).mpr (.inl g)), fun x => by rw [e0, e0']; simp [e3]⟩
omit [Tbs] in
def dPar (i j : Nat) (fl : EvL) : Sv := bndL .exc fl fun rs ρ p => (takeRs ρ rs).bind fun z => match z.1 with
  | [c, d] => some (.nx ((z.2.set i (some c)).set j (some d)))
  | _ => none
theorem ds_par (i j : Nat) {x y : Str} {px py pt : Pos} {kt k2 pt2} (hc : X.calm = true) (hN : X.N.Nodup) (ha : DL X W [a, b] fl) (hpi : i ∉ prot := by decide) (hpj : j ∉ prot := by decide) (hij : i ≠ j := by decide) (hi : X.N[i]? = some x := by rfl) (hj : X.N[j]? = some y := by rfl)
    (hx : X.env.scope.names.lookup x = some .local := by rfl) (hy : X.env.scope.names.lookup y = some .local := by rfl)
    (hw : swappedStores [.Tuple [.Name x px, .Name y py] kt pt] (.Tuple [a, b] k2 pt2) X.env = pure (some [x, y]) := by rfl)
    (hs : swapsWithSole [.Tuple [.Name x px, .Name y py] kt pt] (.Tuple [a, b] k2 pt2) pos.line X.env = pure false := by rfl) :
    DS X W prot (.Assign [.Tuple [.Name x px, .Name y py] kt pt] (.Tuple [a, b] k2 pt2) pos) (dPar i j fl) := by
  refine PS.imp (ps_par hc hN hi hj hij hx hy ha hw hs) fun σ H E h => ?_
  obtain ⟨ρ, F, a, s, e, q⟩ := h
  refine bndLE s e q.exc fun rs ρ1 p us H1 F1 Fd e1 P1 => ?_
  cases et : takeRs ρ1 rs with
  | none => rw [et] at e1; cases e1
  | some z =>
    obtain ⟨es, ρ2⟩ := z
    rw [et] at e1
    simp only [Option.bind_some] at e1
    obtain ⟨F2, Fe, s2, r2, dj2, k1, k2⟩ := takeRs_ok P1.s P1.r P1.dj et
    split at e1
    · rename_i c d
      cases e1
      obtain ⟨v, w, Fa, Fb, rfl, r1, r1', n, e0⟩ := r2.two
      refine ⟨v, w, rfl, ?_⟩
      obtain ⟨F3, s3, k3⟩ := s2.store (i := i) r1 fun x f g => dj2 x ((e0 x).mpr (.inl f)) g
      have r1w : Disj Fb F3 := fun x f g => (k3 x g).elim (fun z => n x z f) fun z => dj2 x ((e0 x).mpr (.inr f)) z
      obtain ⟨F4, s4, k4⟩ := s3.store (i := j) r1' r1w
      refine q _ H1 F4 ⟨s4, P1.fr.less fun x z => ?_, by simp, fun m hm => ?_⟩
      · have all : ∀ x, Fa x ∨ Fb x → orF F1 Fd x := fun x z => k2 x ((e0 x).mpr z)
        rcases k4 x z with z | z
        · exact all x (.inr z)
        · rcases k3 x z with z | z
          · exact all x (.inl z)
          · exact .inl (k1 x z)
      · rw [List.getElem?_set_ne (show j ≠ m from fun z => hpj (by rw [z]; exact hm)), List.getElem?_set_ne (show i ≠ m from fun z => hpi (by rw [z]; exact hm))]
    · cases e1

/-! ### a dict written out -/
omit [Tbs] in
def dPairs : List (Ev × Ev) → EvL
  | [] => dNil
  | (k, v) :: r => dCons k (dCons v (dPairs r))
def trsOf (K : PySem.W.Frag) (W : WX) : List (Ev × Ev) → List (TE × TE)
  | [] => []
  | (k, v) :: r => (wpE K W k, wpE K W v) :: trsOf K W r
omit [Tbs] in
def flat2 : List (V × V) → List V
  | [] => []
  | (k, v) :: r => k :: v :: flat2 r
theorem pairs_core {K : PySem.W.Frag} : ∀ (fs : List (Ev × Ev)) {σ : St} {H : Hp} {Q : List (V × V) → Hp → Prop}, wpL K W (dPairs fs) σ H (fun vs H' => ∀ ps, vs = flat2 ps → Q ps H') → tPairs (trsOf K W fs) σ H Q
  | [], σ, H, Q, h => by
    obtain ⟨ρ, F, a, s, e, q⟩ := h
    cases e
    exact q [] H F (fun _ => False) ⟨s, .nil fun _ z => z, fun _ z => z.elim, (Fr.refl H F).less fun a z => z.elim (fun z => z) False.elim, fun _ => Sm.refl H⟩ [] rfl
  | (fk, fv) :: r, σ, H, Q, h => by
    obtain ⟨ρ, F, a, s, e, q⟩ := h
    have qx : ∀ c ρ', a = .exc c ρ' → ∀ H' F', PostX K σ H F ρ' H' F' → W c none σ H' := by
      rintro c ρ' rfl; exact q
    refine bndE s e qx fun rk ρ1 p1 x H1 F1 Fd e1 P1 => ?_
    have e1' : bndL AnsL.exc (dCons fv (dPairs r)) (fun rs ρ2 p2 => if rk.isBor && !p2 then none else some (.ok (rk :: rs) ρ2 (p1 && p2))) ρ1 = some a := e1
    unfold bndL at e1'
    cases q1 : dCons fv (dPairs r) ρ1 with
    | none => rw [q1] at e1'; cases e1'
    | some a1 =>
      rw [q1] at e1'
      have qx1 : ∀ c ρ', a1 = .exc c ρ' → ∀ H' F', PostX K σ H1 F1 ρ' H' F' → W c none σ H' := by
        rintro c ρ' rfl
        cases e1'
        exact fun H' F' hx => qx c ρ' rfl H' F' (P1.next hx)
      refine bndE P1.s q1 qx1 fun rv ρ2 p2 y H2 F2 Fe e2 P2 => ?_
      have e2' : bndL AnsL.exc (dPairs r) (fun rs ρ3 p3 => if rv.isBor && !p3 then none else some (.ok (rv :: rs) ρ3 (p2 && p3))) ρ2 = some a1 := e2
      unfold bndL at e2'
      cases q2 : dPairs r ρ2 with
      | none => rw [q2] at e2'; cases e2'
      | some a2 =>
        rw [q2] at e2'
        refine pairs_core r ⟨ρ2, F2, a2, P2.s, q2, ?_⟩
        cases a2 with
        | exc c ρ' =>
          cases e2'
          exact fun H' F' hx => qx1 c ρ' rfl H' F' (P2.next hx)
        | ok rs ρ3 p3 =>
          intro vs H3 F3 Fg P3 ps eps
          simp only at e2'
          split at e2'
          · cases e2'
          · rename_i hb2
            cases e2'
            simp only at e1'
            split at e1'
            · cases e1'
            · rename_i hb1
              cases e1'
              have b2 : (∃ d, rv = .bor d) → Sm H2 H3 := by
                rintro ⟨d, rfl⟩
                simp [Res.isBor] at hb2
                exact P3.pu hb2
              have r2 : RepR K H3 σ rv y Fe := P2.r.step P3.fr P2.dj b2
              have ap2 : Disj Fe (orF F3 Fg) := P3.fr.apart P2.r.dom P2.dj
              have fr23 : Fr H1 F1 H3 (orF F3 (orF Fe Fg)) := Fr.two P2.fr P3.fr P2.r.dom
              have b1 : (∃ d, rk = .bor d) → Sm H1 H3 := by
                rintro ⟨d, rfl⟩
                simp [Res.isBor] at hb1
                exact (P2.pu hb1.1).trans (P3.pu hb1.2)
              have r1 : RepR K H3 σ rk x Fd := P1.r.step fr23 P1.dj b1
              have ap1 : Disj Fd (orF F3 (orF Fe Fg)) := fr23.apart P1.r.dom P1.dj
              refine q (x :: y :: vs) H3 F3 (orF Fd (orF Fe Fg)) ⟨P3.s, .cons r1 (.cons r2 P3.r (fun z f g => ap2 z f (.inr g)) fun _ => Iff.rfl) (fun z f g => ap1 z f (.inr g)) fun _ => Iff.rfl, ?_, Fr.two P1.fr fr23 P1.r.dom, ?_⟩ ((x, y) :: ps) (by rw [eps]; rfl)
              · rintro z (f | f | f) g
                · exact ap1 z f (.inl g)
                · exact ap2 z f (.inl g)
                · exact P3.dj z f g
              · intro z
                simp at z
                exact (P1.pu z.1).trans ((P2.pu z.2.1).trans (P3.pu z.2.2))
omit [Tbs] in
/-- keys and values, one behind the other -/
def unflat : List D → Option (List (Key × D))
  | [] => some []
  | k :: v :: r => match k.key, unflat r with
    | some k, some s => some ((k, v) :: s)
    | _, _ => none
  | _ => none
theorem unflat_ok {K : PySem.W.Frag} {H : Hp} : ∀ {ds : List D} {kds : List (Key × D)} {vs : List V} {G : FP}, RepL K H vs ds G → unflat ds = some kds →
    ∃ kvs : List (Key × V), vs = flat2 (kvs.map fun kv => (kV kv.1, kv.2)) ∧ RepK K H kvs kds G
  | [], _, _, _, .nil e0, e => by cases e; exact ⟨[], rfl, .nil e0⟩
  | [k], _, _, _, _, e => by cases e
  | k :: v :: r, _, _, _, .cons r1 (.cons r2 s n e0) n' e0', e => by
    unfold unflat at e
    split at e
    · rename_i k' s' h1 h2
      cases e
      obtain ⟨kvs, h3, h4⟩ := unflat_ok s h2
      have hi : k.imm = true := by cases k <;> simp [D.key] at h1 <;> rfl
      have nk := r1.imm hi
      refine ⟨(k', _) :: kvs, by rw [List.map_cons, flat2, ← h3, r1.key h1], .cons r2 h4 n fun x => ?_⟩
      rw [e0', e0]
      constructor
      · rintro (z | z)
        · exact (nk x z).elim
        · exact z
      · exact .inr
    · cases e
theorem mergeK_nodup : ∀ (more acc : List (Key × V)), (∀ p ∈ more, (acc.any fun kv => decide (kv.1 = p.1)) = false) → (more.map (·.1)).Nodup → mergeK acc more = acc ++ more
  | [], acc, _, _ => by simp [mergeK]
  | p :: r, acc, h, nd => by
    have h1 := h p List.mem_cons_self
    have e1 : putK acc p.1 p.2 = acc ++ [p] := by
      unfold putK
      rw [if_neg (by rw [h1]; exact Bool.false_ne_true)]
    have e2 : mergeK acc (p :: r) = mergeK (putK acc p.1 p.2) r := rfl
    rw [List.map_cons, List.nodup_cons] at nd
    rw [e2, e1, mergeK_nodup r (acc ++ [p]) ?_ nd.2]
    · simp
    · intro q hq
      rw [List.any_append, h q (List.mem_cons_of_mem _ hq)]
      have : p.1 ≠ q.1 := fun z => nd.1 (z ▸ List.mem_map_of_mem hq)
      simp [this]
omit [Tbs] in
def dDisp (fs : List (Ev × Ev)) : Ev := bndL .exc (dPairs fs) fun rs ρ p => (takeRs ρ rs).bind fun z => (unflat z.1).bind fun kds =>
  if kds.length ≤ 15 ∧ (kds.map (·.1)).Nodup then some (.ok (.own (.dic kds)) z.2 p) else none
theorem flat2_inj : ∀ {xs ys : List (V × V)}, flat2 xs = flat2 ys → xs = ys
  | [], [], _ => rfl
  | [], (_, _) :: _, h => by simp [flat2] at h
  | (_, _) :: _, [], h => by simp [flat2] at h
  | (a, b) :: r, (c, d) :: s, h => by
    simp only [flat2, List.cons.injEq] at h
    obtain ⟨rfl, rfl, h⟩ := h
    rw [flat2_inj h]
def DPs (X : Cx) (W : WX) (pos : Pos) (ks : List (Option Expr)) (vs : List Expr) (fs : List (Ev × Ev)) : Prop := PPs X pos ks vs (trsOf X.K W fs)
theorem dps_nil : DPs X W pos [] [] [] := pps_nil
theorem dps_cons {k v : Expr} {ks : List (Option Expr)} {vs : List Expr} {fs : List (Ev × Ev)} (hk : DE X W k fk) (hv : DE X W v fv) (hr : DPs X W pos ks vs fs) : DPs X W pos (some k :: ks) (v :: vs) ((fk, fv) :: fs) := pps_cons hk hv hr
theorem de_disp {ks : List (Option Expr)} {vs : List Expr} {fs : List (Ev × Ev)} (h : DPs X W pos ks vs fs) (hall : ks.all (·.isSome) = true := by rfl) (hl : ks.length = vs.length := by rfl) (h0 : ks ≠ [] := by exact fun z => nomatch z) (h15 : ks.length ≤ 15 := by decide) : DE X W (.Dict ks vs pos) (dDisp fs) := by
  refine PE.imp (pe_disp h hall hl h0 h15) fun σ H Q h => ?_
  obtain ⟨ρ, F, a, s, e, q⟩ := h
  intro p hp
  have sm : Sm H (upd H p (.dK [])) := Sm.new hp
  have fr0 : Fr H F (upd H p (.dK [])) F := Sm.fr sm
  refine pairs_core fs (bndLE (s.same sm) e (fun c ρ' ea H' F' hx => q.exc c ρ' ea H' F' ⟨hx.s, fr0.trans hx.fr⟩) fun rs ρ1 p1 us H1 F1 Fd e1 P1 ps eps => ?_)
  cases et : takeRs ρ1 rs with
  | none => rw [et] at e1; cases e1
  | some z =>
    obtain ⟨es, ρ2⟩ := z
    rw [et] at e1
    simp only [Option.bind_some] at e1
    obtain ⟨F2, Fe, s2, r2, dj2, k1, k2⟩ := takeRs_ok P1.s P1.r P1.dj et
    cases eu : unflat es with
    | none => rw [eu] at e1; cases e1
    | some kds =>
      rw [eu] at e1
      simp only [Option.bind_some] at e1
      split at e1
      · rename_i hc
        cases e1
        obtain ⟨kvs, h1, h2⟩ := unflat_ok r2 eu
        have nF : ¬ F p := fun z => dom_ne s.dom p z (.of hp)
        have hpp : H1 p = some (.dK []) := P1.fr.out p _ upd_same rfl nF
        have fr1 : Fr (upd H p (.dK [])) F H1 (orF F2 Fe) := P1.fr.less fun x z => z.elim (fun z => .inl (k1 x z)) (k2 x)
        have hpn : ¬ orF F2 Fe p := fun z => (fr1.new p z).elim nF fun z => nomatch z _ upd_same
        have eps' : ps = kvs.map fun kv => (kV kv.1, kv.2) := flat2_inj (eps.symm.trans h1)
        refine ⟨hpp, kvs, eps', by rw [h2.length]; exact hc.1, ?_⟩
        have nd : (kvs.map (·.1)).Nodup := by rw [h2.keys]; exact hc.2
        rw [mergeK_nodup kvs [] (fun _ _ => rfl) nd, List.nil_append]
        have uk := upd_keep (u := .dK kvs) hpp rfl
        have npFe : ¬ Fe p := fun z => hpn (.inr z)
        have npF2 : ¬ F2 p := fun z => hpn (.inl z)
        have h2' : RepK X.K (upd H1 p (.dK kvs)) kvs kds Fe := h2.keep (fun b o g h => uk.1 b o h fun z => npFe (z ▸ g)) uk.2
        refine q (.ref p) _ F2 (fun x => x = p ∨ Fe x) ⟨s2.keep (fun b o g h => uk.1 b o h fun z => npF2 (z ▸ g)) uk.2 (.but hpp rfl uk.1), .dic upd_same h2' npFe fun _ => Iff.rfl, ?_, ?_, fun z => ?_⟩
        · rintro x (z | z) w
          · exact npF2 (z ▸ w)
          · exact dj2 x z w
        · refine ⟨fun b o hb hn nb => ?_, fun b o hb m => ?_, fun x z => ?_, (sm.tb.trans P1.fr.tb).trans (.but hpp rfl uk.1)⟩
          · have nbp : b ≠ p := fun z => by rw [z, hp] at hb; cases hb
            rw [upd_ne nbp]
            exact P1.fr.out b o (sm.k b o hb hn) hn nb
          · have nbp : b ≠ p := fun z => by rw [z, hp] at hb; cases hb
            rw [upd_ne nbp]
            exact P1.fr.imm b o (sm.k b o hb (nt_imm m)) m
          · have go : orF F2 Fe x → F x ∨ Fre H x := fun z => (fr1.new x z).imp (fun z => z) fun z => by
              by_cases hx : x = p
              · rw [hx]; exact .of hp
              · intro o e; exact z o (by rw [upd_ne hx]; exact e)
            rcases z with z | z | z
            · exact go (.inl z)
            · exact .inr (z ▸ .of hp)
            · exact go (.inr z)
        · refine ⟨fun b o hb hn => ?_, (sm.tb.trans P1.fr.tb).trans (.but hpp rfl uk.1)⟩
          have nbp : b ≠ p := fun z => by rw [z, hp] at hb; cases hb
          rw [upd_ne nbp]
          exact (P1.pu z).k b o (sm.k b o hb hn) hn
      · cases e1
end
end PD
end
section
set_option Elab.async false
set_option linter.all false
set_option autoImplicit false
set_option maxRecDepth 100000
/-! What is walked; for; list comprehensions. -/
namespace PD
open PySem PySem.Spec L2

variable [Tbs]
omit [Tbs] in
structure ItR where
  items : List D
  deps : List Nat
  need : Bool
omit [Tbs] in
inductive AnsI where
  | ok (it : ItR) (ρ : Rho) (p : Bool)
  | exc (c : Value) (ρ : Rho)
omit [Tbs] in
abbrev EvI := Rho → Option AnsI
/-- J yields the items wherever S holds -/
def Walks (K : PySem.W.Frag) (J : It) (S : Hp → Prop) (items : List D) : Prop := ∀ H, S H → ∀ i : Nat, (items.length ≤ i → J.stop i H) ∧
  ∀ d, items[i]? = some d → J.go i H ∧ ∀ x H', J.yld i H x H' → Sm H H' ∧ ∃ G, Rep K H' x d G
structure PostI (K : PySem.W.Frag) (σ : St) (H : Hp) (F : FP) (it : ItR) (ρ' : Rho) (p : Bool) (J : It) (H' : Hp) (F' : FP) : Prop where
  s : RepS K H' σ ρ' F'
  fr : Fr H F H' F'
  pu : p = true → Sm H H'
  wk : ∃ S, S H' ∧ Walks K J S it.items ∧ ∀ σ1 ρ1 H1 F1, RepS K H1 σ1 ρ1 F1 → Fr H' F' H1 F1 → (∀ i ∈ it.deps, σ1[i]? = σ[i]? ∧ ρ1[i]? = ρ'[i]?) → (it.need = true → Sm H' H1) → S H1
def FinI (K : PySem.W.Frag) (W : WX) (σ : St) (H : Hp) (F : FP) (R : It → Hp → Prop) : AnsI → Prop
  | .ok it ρ' p => ∀ J H' F', PostI K σ H F it ρ' p J H' F' → R J H'
  | .exc c ρ' => ∀ H' F', PostX K σ H F ρ' H' F' → W c none σ H'
def wpI (K : PySem.W.Frag) (W : WX) (f : EvI) : TI := fun σ H R => ∃ ρ F a, RepS K H σ ρ F ∧ f ρ = some a ∧ FinI K W σ H F R a
def DI (X : Cx) (W : WX) (tg iter : Expr) (f : EvI) : Prop := PI X tg iter (wpI X.K W f)
theorem PI.imp {X : Cx} {tg e : Expr} {t t' : TI} (h : PI X tg e t) (k : ∀ σ H R, t' σ H R → t σ H R) : PI X tg e t' :=
  ⟨fun pins s σ H R I q => h.run pins s σ H R I (k σ H R q)⟩
theorem FinI.exc {K : PySem.W.Frag} {W : WX} {σ : St} {H : Hp} {F : FP} {R : It → Hp → Prop} {a : AnsI} (h : FinI K W σ H F R a) : ∀ c ρ', a = .exc c ρ' → ∀ H' F', PostX K σ H F ρ' H' F' → W c none σ H' := by
  rintro c ρ' rfl
  exact h
omit [Tbs] in
def bndI {β : Type} (x : Value → Rho → β) (f : EvI) (k : ItR → Rho → Bool → Option β) : Rho → Option β := fun ρ =>
  match f ρ with
  | some (.ok r ρ' p) => k r ρ' p
  | some (.exc c ρ') => some (x c ρ')
  | none => none
theorem bndIE {β : Type} {x : Value → Rho → β} {K : PySem.W.Frag} {W : WX} {f : EvI} {k : ItR → Rho → Bool → Option β} {σ : St} {H : Hp} {ρ : Rho} {F : FP} {a : β} {R : It → Hp → Prop}
    (s : RepS K H σ ρ F) (e : bndI x f k ρ = some a) (hx : ∀ c ρ', a = x c ρ' → ∀ H' F', PostX K σ H F ρ' H' F' → W c none σ H')
    (hk : ∀ r ρ1 p J H1 F1, k r ρ1 p = some a → PostI K σ H F r ρ1 p J H1 F1 → R J H1) : wpI K W f σ H R := by
  unfold bndI at e
  cases q : f ρ with
  | none => rw [q] at e; cases e
  | some b =>
    rw [q] at e
    refine ⟨ρ, F, b, s, q, ?_⟩
    cases b with
    | ok r ρ' p => exact fun J H' F' h => hk r ρ' p J H' F' e h
    | exc c ρ' =>
      cases e
      exact fun H' F' h => hx c ρ' rfl H' F' h
omit [Tbs] in
def Res.deps : Res → List Nat
  | .var i => [i]
  | _ => []
/-- an answer is still to be read later on -/
theorem RepR.later {K : PySem.W.Frag} {H H1 : Hp} {σ σ1 : St} {ρ ρ1 : Rho} {r : Res} {v : V} {F Fd F1 : FP} {d : D} (h : RepR K H σ r v Fd) (s : RepS K H σ ρ F) (dj : Disj Fd F) (e : r.rd ρ = some d)
    (s1 : RepS K H1 σ1 ρ1 F1) (fr : Fr H F H1 F1) (hd : ∀ i ∈ r.deps, σ1[i]? = σ[i]? ∧ ρ1[i]? = ρ[i]?) (hn : r.isBor = true → Sm H H1) : ∃ G, Rep K H1 v d G := by
  cases r with
  | own d' => cases e; exact ⟨Fd, fr.rep h dj⟩
  | bor d' =>
    cases e
    obtain ⟨⟨G, g⟩, _⟩ := h
    exact ⟨G, g.same (hn rfl)⟩
  | var i =>
    obtain ⟨h1, h2⟩ := hd i (by simp [Res.deps])
    have e' : ρ1[i]? = some (some d) := by
      rw [h2]
      simp only [Res.rd] at e
      exact atS e
    obtain ⟨v', G, k1, k2, _⟩ := s1.get e'
    rw [h1, h.1] at k1
    cases k1
    exact ⟨G, k2⟩
theorem RepRs.later {K : PySem.W.Frag} {H H1 : Hp} {σ σ1 : St} {ρ ρ1 : Rho} {F F1 : FP} (s : RepS K H σ ρ F) (s1 : RepS K H1 σ1 ρ1 F1) (fr : Fr H F H1 F1) :
    ∀ {rs : List Res} {vs : List V} {ds : List D} {Fd : FP}, RepRs K H σ rs vs Fd → Disj Fd F → rdL ρ rs = some ds → (∀ i ∈ rs.flatMap Res.deps, σ1[i]? = σ[i]? ∧ ρ1[i]? = ρ[i]?) → (rs.any Res.isBor = true → Sm H H1) → Rds K H1 vs ds
  | _, _, _, _, .nil _, _, e, _, _ => by simp [rdL] at e; subst e; exact .nil
  | r :: rs, _, _, _, .cons h t n e0, dj, e, hd, hn => by
    simp only [rdL] at e
    split at e
    · rename_i d ds h1 h2
      cases e
      refine .cons (h.later s (fun x f g => dj x ((e0 x).mpr (.inl f)) g) h1 s1 fr (fun i hi => hd i (by simp [hi])) fun hb => hn (by simp [hb])) ?_
      exact RepRs.later s s1 fr t (fun x f g => dj x ((e0 x).mpr (.inr f)) g) h2 (fun i hi => hd i (by rw [List.flatMap_cons]; exact List.mem_append_right _ hi)) fun hb => hn (by rw [List.any_cons, hb, Bool.or_true])
    · cases e
omit [Tbs] in
def dIter1 (g : D → Option (List D)) (fe : Ev) : EvI := bnd .exc fe fun r ρ p => (r.rd ρ).bind fun d => (g d).map fun xs => .ok ⟨xs, r.deps, r.isBor⟩ ρ p
omit [Tbs] in
def dIterL (g : List D → Option (List D)) (fl : EvL) : EvI := bndL .exc fl fun rs ρ p => (rdL ρ rs).bind fun ds => (g ds).map fun xs => .ok ⟨xs, rs.flatMap Res.deps, rs.any Res.isBor⟩ ρ p
section
variable {X : Cx} {W : WX} {prot : List Nat} {e a b tg : Expr} {es : List Expr} {f fa fb fe : Ev} {fl : EvL} {fi : EvI} {pos : Pos}
theorem iter1_core {K : PySem.W.Frag} {g : D → Option (List D)} {σ : St} {H : Hp} {R : It → Hp → Prop} {Q : VK} (h : wpI K W (dIter1 g fe) σ H R)
    (hq : ∀ v d xs G H1, g d = some xs → Rep K H1 v d G → ∃ J, Walks K J (fun H => ∃ G, Rep K H v d G) xs ∧ (R J H1 → Q v H1)) : wpE K W fe σ H Q := by
  obtain ⟨ρ, F, a, s, e, q⟩ := h
  refine bndE s e q.exc fun r ρ1 p v H1 F1 Fd e1 P1 => ?_
  cases er : r.rd ρ1 with
  | none => rw [er] at e1; cases e1
  | some d =>
    rw [er] at e1
    simp only [Option.bind_some] at e1
    cases eg : g d with
    | none => rw [eg] at e1; cases e1
    | some xs =>
      rw [eg] at e1; cases e1
      obtain ⟨G, r', _⟩ := P1.r.rd P1.s er
      obtain ⟨J, hw, hr⟩ := hq v d xs G H1 eg r'
      refine hr (q J H1 F1 ⟨P1.s, P1.fr1, P1.pu, _, ⟨G, r'⟩, hw, fun σ1 ρ2 H2 F2 s2 fr2 hd hn => ?_⟩)
      exact P1.r.later P1.s P1.dj er s2 fr2 hd hn
theorem iterL_core {K : PySem.W.Frag} {g : List D → Option (List D)} {σ : St} {H : Hp} {R : It → Hp → Prop} {Q : List V → Hp → Prop} (h : wpI K W (dIterL g fl) σ H R)
    (hq : ∀ vs ds xs H1, g ds = some xs → Rds K H1 vs ds → ∃ J, Walks K J (fun H => Rds K H vs ds) xs ∧ (R J H1 → Q vs H1)) : wpL K W fl σ H Q := by
  obtain ⟨ρ, F, a, s, e, q⟩ := h
  refine bndLE s e q.exc fun rs ρ1 p vs H1 F1 Fd e1 P1 => ?_
  cases er : rdL ρ1 rs with
  | none => rw [er] at e1; cases e1
  | some ds =>
    rw [er] at e1
    simp only [Option.bind_some] at e1
    cases eg : g ds with
    | none => rw [eg] at e1; cases e1
    | some xs =>
      rw [eg] at e1; cases e1
      have r' := P1.r.rds P1.s er
      obtain ⟨J, hw, hr⟩ := hq vs ds xs H1 eg r'
      refine hr (q J H1 F1 ⟨P1.s, P1.fr.less fun x z => .inl z, P1.pu, _, r', hw, fun σ1 ρ2 H2 F2 s2 fr2 hd hn => ?_⟩)
      exact P1.r.later P1.s s2 fr2 P1.dj er hd hn
/-- a list walked -/
theorem di_list (h : DE X W e f) : DI X W tg e (dIter1 D.lis f) := by
  refine PI.imp (pi_list h) fun σ H R h => ?_
  refine iter1_core h fun v d xs G H1 hd r => ?_
  obtain ⟨a, vs, G', rfl, h1, h2, h3, _⟩ := r.lis hd
  refine ⟨Itl X.K a, fun H2 ⟨G2, r2⟩ i => ?_, fun hr => ⟨a, rfl, ⟨_, h1⟩, hr⟩⟩
  obtain ⟨a', us, G3, ea, k1, k2, k3, _⟩ := r2.lis hd
  cases ea
  refine ⟨fun hi => ⟨us, k1, by rw [k3.length]; exact hi⟩, fun c hc => ?_⟩
  obtain ⟨u, Gu, hu, _, _⟩ := k3.get hc
  refine ⟨⟨us, u, k1, hu⟩, fun x H' y => ?_⟩
  obtain ⟨rfl, hy⟩ := y
  obtain ⟨v, Gv, hv, rv, _⟩ := k3.get hc
  have := hy us k1
  rw [hv] at this; cases this
  exact ⟨Sm.refl _, Gv, rv⟩
omit [Tbs] in
def tupI : D → Option (List D)
  | .tup xs => some xs
  | _ => none
theorem di_tup (h : DE X W e f) : DI X W tg e (dIter1 tupI f) := by
  refine PI.imp (pi_tup h) fun σ H R h => ?_
  refine iter1_core h fun v d xs G H1 hd r => ?_
  cases d <;> simp [tupI] at hd
  subst hd
  obtain ⟨a, vs, rfl, h1, h2, h3⟩ := r.tup_inv
  refine ⟨Itt X.K a, fun H2 ⟨G2, r2⟩ i => ?_, fun hr => ⟨a, rfl, ⟨_, h1⟩, hr⟩⟩
  obtain ⟨a', us, ea, k1, k2, k3⟩ := r2.tup_inv
  cases ea
  refine ⟨fun hi => ⟨us, k1, by rw [k3.length]; exact hi⟩, fun c hc => ?_⟩
  obtain ⟨u, Gu, hu, ru, _⟩ := k3.get hc
  refine ⟨⟨us, u, k1, hu⟩, fun x H' y => ?_⟩
  obtain ⟨rfl, hy⟩ := y
  have := hy us k1
  rw [hu] at this; cases this
  exact ⟨Sm.refl _, Gu, ru⟩
omit [Tbs] in
def rangeL (lo : Int) (n : Nat) : List D := (List.range n).map fun k => .int (lo + (k : Nat))
theorem rangeL_get {lo : Int} {n i : Nat} {d : D} (h : (rangeL lo n)[i]? = some d) : i < n ∧ d = .int (lo + (i : Nat)) := by
  unfold rangeL at h
  rw [List.getElem?_map] at h
  by_cases hi : i < n
  · rw [List.getElem?_range hi] at h
    cases h
    exact ⟨hi, rfl⟩
  · rw [List.getElem?_eq_none (by simpa using hi)] at h
    cases h
theorem walks_range {K : PySem.W.Frag} {lo : Int} {n : Nat} {S : Hp → Prop} : Walks K (Itr lo n) S (rangeL lo n) := fun H _ i =>
  ⟨fun hi => (show n ≤ i by simpa [rangeL] using hi), fun d hd => by
    obtain ⟨h1, rfl⟩ := rangeL_get hd
    refine ⟨h1, fun x H' y => ?_⟩
    obtain ⟨rfl, rfl⟩ := y
    exact ⟨Sm.refl _, fun _ => False, .int _ fun _ z => z⟩⟩
omit [Tbs] in
noncomputable def gRange1 : List D → Option (List D)
  | [.int j] => if smallI j then some (rangeL 0 j.toNat) else none
  | _ => none
theorem di_range1 {p : Pos} (hg : Gl X "range") (hm : X.mg "range" = none) (ha : DL X W [a] fl) (hs : starEach [a] X.env = [(false, eval a X.env)] := by rfl) : DI X W tg (.Call (.Name "range" p) [a] [] pos) (dIterL gRange1 fl) := by
  refine PI.imp (pi_range1 hg hm ha hs) fun σ H R h => ?_
  refine iterL_core h fun vs ds xs H1 hd r => ?_
  unfold gRange1 at hd
  split at hd
  · rename_i j
    split at hd
    · rename_i hj
      cases hd
      obtain ⟨v, G, rfl, rv⟩ := r.one
      obtain rfl := rv.int_inv
      simp [smallI_eq] at hj
      exact ⟨Itr 0 j.toNat, walks_range, fun hr => ⟨j, rfl, by omega, by omega, hr⟩⟩
    · cases hd
  · cases hd
omit [Tbs] in
noncomputable def gRange2 : List D → Option (List D)
  | [.int i, .int j] => if smallI i && smallI j then some (rangeL i (j - i).toNat) else none
  | _ => none
theorem di_range2 {p : Pos} (hg : Gl X "range") (hm : X.mg "range" = none) (ha : DL X W [a, b] fl) (hs : starEach [a, b] X.env = [(false, eval a X.env), (false, eval b X.env)] := by rfl) (hs2 : starEach [b] X.env = [(false, eval b X.env)] := by rfl) : DI X W tg (.Call (.Name "range" p) [a, b] [] pos) (dIterL gRange2 fl) := by
  refine PI.imp (pi_range2 hg hm ha hs hs2) fun σ H R h => ?_
  refine iterL_core h fun vs ds xs H1 hd r => ?_
  unfold gRange2 at hd
  split at hd
  · rename_i i j
    split at hd
    · rename_i hj
      cases hd
      obtain ⟨v, w, G, G', rfl, rv, rw'⟩ := r.two
      obtain rfl := rv.int_inv
      obtain rfl := rw'.int_inv
      simp [smallI_eq] at hj
      exact ⟨Itr i (j - i).toNat, walks_range, fun hr => ⟨i, j, rfl, ⟨by omega, by omega, by omega, by omega⟩, hr⟩⟩
    · cases hd
  · cases hd
omit [Tbs] in
/-- numbered items -/
def enumL (xs : List D) : List D := xs.zipIdx.map fun p => .tup [.int (p.2 : Nat), p.1]
theorem enumL_get {xs : List D} {i : Nat} {d : D} (h : (enumL xs)[i]? = some d) : ∃ c, xs[i]? = some c ∧ d = .tup [.int (i : Nat), c] := by
  unfold enumL at h
  rw [List.getElem?_map, List.getElem?_zipIdx] at h
  cases q : xs[i]? with
  | none => rw [q] at h; cases h
  | some c => rw [q] at h; simp at h; exact ⟨c, rfl, h.symm⟩
theorem rep_pair {K : PySem.W.Frag} {H : Hp} {T : Addr} {x y : V} {c d : D} {G G' : FP} (n : H T = none) (hx : Rep K H x c G) (hy : Rep K H y d G') (ic : c.imm = true) (id : d.imm = true) : Sm H (upd H T (.tup [x, y])) ∧ ∃ G, Rep K (upd H T (.tup [x, y])) (.ref T) (.tup [c, d]) G := by
  have r2 : RepL K H [y] [d] fun _ => False := .cons (F2 := fun _ => False) (hy.thin id) (.nil fun _ z => z) (fun _ z => z.elim) fun _ => by simp
  have r1 : RepL K H [x, y] [c, d] fun _ => False := .cons (F2 := fun _ => False) (hx.thin ic) r2 (fun _ z => z.elim) fun _ => by simp
  exact ⟨Sm.new n, fun _ => False, rep_newT n (by show 2 ≤ sizeLine; decide) r1⟩
omit [Tbs] in
def gEnumL : List D → Option (List D)
  | [d] => d.lis.bind fun xs => if immL xs then some (enumL xs) else none
  | _ => none
theorem di_enumL {p tpos : Pos} {elts : List Expr} {kk : Nat} (hg : Gl X "enumerate") (hm : X.mg "enumerate" = none) (ha : DL X W [e] fl) (hs : starEach [e] X.env = [(false, eval e X.env)] := by rfl) : DI X W (.Tuple elts kk tpos) (.Call (.Name "enumerate" p) [e] [] pos) (dIterL gEnumL fl) := by
  refine PI.imp (pi_enum hg hm ha hs) fun σ H R h => ?_
  refine iterL_core h fun vs ds xs H1 hd r => ?_
  unfold gEnumL at hd
  split at hd
  · rename_i d
    cases hx : d.lis with
    | none => rw [hx] at hd; cases hd
    | some ys =>
      rw [hx] at hd
      simp only [Option.bind_some] at hd
      split at hd
      · rename_i hi
        cases hd
        obtain ⟨v, G, rfl, rv⟩ := r.one
        obtain ⟨a, vs, G', rfl, h1, h2, h3, _⟩ := rv.lis hx
        refine ⟨Ite X.K a, fun H2 r2 i => ?_, fun hr => ⟨a, _, rfl, h1, hr⟩⟩
        obtain ⟨v2, G2, e2, rv2⟩ := r2.one
        cases e2
        obtain ⟨a', us, G3, ea, k1, k2, k3, _⟩ := rv2.lis hx
        cases ea
        refine ⟨fun hi => ⟨us, k1, by rw [k3.length]; simpa [enumL] using hi⟩, fun c hc => ?_⟩
        obtain ⟨c', hc', rfl⟩ := enumL_get hc
        obtain ⟨u, Gu, hu, ru, _⟩ := k3.get hc'
        refine ⟨⟨us, u, k1, hu⟩, fun x H' y => ?_⟩
        obtain ⟨T, x', rfl, nT, rfl, hy⟩ := y
        have := hy us k1
        rw [hu] at this; cases this
        exact rep_pair nT (.int (F := fun _ => False) _ fun _ z => z) ru rfl (immL_iff.mp hi _ (List.mem_of_getElem? hc'))
      · cases hd
  · cases hd
omit [Tbs] in
def zipL (xs ys : List D) : List D := (xs.zip ys).map fun p => .tup [p.1, p.2]
theorem zipL_get {xs ys : List D} {i : Nat} {d : D} (h : (zipL xs ys)[i]? = some d) : ∃ c c', xs[i]? = some c ∧ ys[i]? = some c' ∧ d = .tup [c, c'] := by
  unfold zipL at h
  rw [List.getElem?_map] at h
  cases q : (xs.zip ys)[i]? with
  | none => rw [q] at h; cases h
  | some c =>
    rw [q] at h; simp at h
    have := List.getElem?_zip_eq_some.mp q
    exact ⟨c.1, c.2, this.1, this.2, h.symm⟩
omit [Tbs] in
def gZip : List D → Option (List D)
  | [.tup xs, .tup ys] => if immL xs && immL ys then some (zipL xs ys) else none
  | [c, d] => match c.lis, d.lis with
    | some xs, some ys => if immL xs && immL ys then some (zipL xs ys) else none
    | _, _ => none
  | _ => none
theorem di_zip {p tpos : Pos} {elts : List Expr} {kk : Nat} (hg : Gl X "zip") (hm : X.mg "zip" = none) (ha : DL X W [a, b] fl)
    (hs : starEach [a, b] X.env = (false, eval a X.env) :: starEach [b] X.env := by rfl) (hpl : (backTo pos (starEach [b] X.env)).any (·.1) = false := by rfl) : DI X W (.Tuple elts kk tpos) (.Call (.Name "zip" p) [a, b] [] pos) (dIterL gZip fl) := by
  refine PI.imp (RZ.pi_zipA hg hm ha hs hpl) fun σ H R h => ?_
  refine iterL_core h fun vs ds xs H1 hd r => ?_
  unfold gZip at hd
  split at hd
  · rename_i xs ys
    split at hd
    · rename_i hi
      simp at hi
      cases hd
      obtain ⟨v, w, G, G', rfl, rv, rw'⟩ := r.two
      obtain ⟨a, vs, rfl, h1, h2, h3⟩ := rv.tup_inv
      obtain ⟨b, ws, rfl, k1, k2, k3⟩ := rw'.tup_inv
      refine ⟨RZ.ItzT X.K a b, fun H2 r2 i => ?_, fun hr => ⟨a, b, vs, ws, rfl, .inr ⟨h1, k1, hr⟩⟩⟩
      obtain ⟨v2, w2, G2, G2', e2, rv2, rw2⟩ := r2.two
      cases e2
      obtain ⟨a', us, ea, h1, h2, h3⟩ := rv2.tup_inv
      cases ea
      obtain ⟨a', us', ea, k1, k2, k3⟩ := rw2.tup_inv
      cases ea
      refine ⟨fun hj => ⟨us, us', h1, k1, ?_⟩, fun c hc => ?_⟩
      · rw [h3.length, k3.length]
        simp only [zipL, List.length_map, List.length_zip] at hj
        omega
      · obtain ⟨c1, c2, hc1, hc2, rfl⟩ := zipL_get hc
        obtain ⟨u, Gu, hu, ru, _⟩ := h3.get hc1
        obtain ⟨u', Gu', hu', ru', _⟩ := k3.get hc2
        refine ⟨⟨us, us', u, u', h1, k1, hu, hu'⟩, fun x H' y => ?_⟩
        obtain ⟨T, x', y', rfl, nT, rfl, hy, hy'⟩ := y
        have q1 := hy us h1
        have q2 := hy' us' k1
        rw [hu] at q1; cases q1
        rw [hu'] at q2; cases q2
        exact rep_pair nT ru ru' (immL_iff.mp hi.1 _ (List.mem_of_getElem? hc1)) (immL_iff.mp hi.2 _ (List.mem_of_getElem? hc2))
    · cases hd
  · rename_i c d _
    split at hd
    · rename_i xs ys hx hy
      split at hd
      · rename_i hi
        simp at hi
        cases hd
        obtain ⟨v, w, G, G', rfl, rv, rw'⟩ := r.two
        obtain ⟨a, vs, G1, rfl, h1, h2, h3, _⟩ := rv.lis hx
        obtain ⟨b, ws, G1', rfl, k1, k2, k3, _⟩ := rw'.lis hy
        refine ⟨Itz X.K a b, fun H2 r2 i => ?_, fun hr => ⟨a, b, vs, ws, rfl, .inl ⟨h1, k1, hr⟩⟩⟩
        obtain ⟨v2, w2, G2, G2', e2, rv2, rw2⟩ := r2.two
        cases e2
        obtain ⟨a', us, G3, ea, h1, h2, h3, _⟩ := rv2.lis hx
        cases ea
        obtain ⟨a', us', G3', ea, k1, k2, k3, _⟩ := rw2.lis hy
        cases ea
        refine ⟨fun hj => ⟨us, us', h1, k1, ?_⟩, fun c hc => ?_⟩
        · rw [h3.length, k3.length]
          simp only [zipL, List.length_map, List.length_zip] at hj
          omega
        · obtain ⟨c1, c2, hc1, hc2, rfl⟩ := zipL_get hc
          obtain ⟨u, Gu, hu, ru, _⟩ := h3.get hc1
          obtain ⟨u', Gu', hu', ru', _⟩ := k3.get hc2
          refine ⟨⟨us, us', u, u', h1, k1, hu, hu'⟩, fun x H' y => ?_⟩
          obtain ⟨T, x', y', rfl, nT, rfl, hy, hy'⟩ := y
          have q1 := hy us h1
          have q2 := hy' us' k1
          rw [hu] at q1; cases q1
          rw [hu'] at q2; cases q2
          exact rep_pair nT ru ru' (immL_iff.mp hi.1 _ (List.mem_of_getElem? hc1)) (immL_iff.mp hi.2 _ (List.mem_of_getElem? hc2))
      · cases hd
    · cases hd
  · cases hd
end
end PD
end
section
set_option Elab.async false
set_option linter.all false
set_option autoImplicit false
set_option maxRecDepth 100000
/-! for; list comprehensions. -/
namespace PD
open PySem PySem.Spec L2

variable [Tbs]
omit [Tbs] in
def depsOk (deps : List Nat) (ρ0 ρ : Rho) : Bool := deps.all fun i => decide (ρ[i]? = ρ0[i]?)
theorem depsOk_iff {deps : List Nat} {ρ0 ρ : Rho} : depsOk deps ρ0 ρ = true ↔ ∀ i ∈ deps, ρ[i]? = ρ0[i]? := by simp [depsOk]
omit [Tbs] in
def dForL (tg : D → Rho → Option Rho) (g : Sv) (deps : List Nat) (ρ0 : Rho) : List D → Rho → Option Out
  | [], ρ => if depsOk deps ρ0 ρ = true then some (.nx ρ) else none
  | d :: r, ρ => if depsOk deps ρ0 ρ = true then match tg d ρ with
      | some ρ1 => match g ρ1 with
        | some (.nx ρ2) => dForL tg g deps ρ0 r ρ2
        | some (.ct ρ2) => dForL tg g deps ρ0 r ρ2
        | some (.bk ρ2) => some (.nx ρ2)
        | o => o
      | none => none
    else none
omit [Tbs] in
def dFor (prot' : List Nat) (tg : D → Rho → Option Rho) (fi : EvI) (g : Sv) : Sv := bndI .exc fi fun it ρ p =>
  if it.need = false ∧ immL it.items = true ∧ (it.deps.all fun i => prot'.contains i) = true then dForL tg g it.deps ρ it.items ρ else none
section
variable {X : Cx} {W : WX} {prot prot' : List Nat} {e a b tg : Expr} {es : List Expr} {f fa fb fe : Ev} {fl : EvL} {fi : EvI} {pos : Pos} {g : Sv} {t : D → Rho → Option Rho}
theorem PostS.sub {K : PySem.W.Frag} {σ σ' : St} {H H' : Hp} {F F' : FP} {ρ' : Rho} (h : PostS K prot' σ H F ρ' σ' H' F') (k : ∀ i ∈ prot, i ∈ prot') : PostS K prot σ H F ρ' σ' H' F' := ⟨h.s, h.fr, h.pr.1, fun i hi => h.pr.2 i (k i hi)⟩
theorem FinS.sub {K : PySem.W.Frag} {σ : St} {H : Hp} {F : FP} {E : Ends} {a : Out} (k : ∀ i ∈ prot, i ∈ prot') (h : FinS K W prot σ H F E a) : FinS K W prot' σ H F E a := by
  cases a with
  | nx ρ' => exact fun σ' H' F' p => h σ' H' F' (p.sub k)
  | bk ρ' => exact fun σ' H' F' p => h σ' H' F' (p.sub k)
  | ct ρ' => exact fun σ' H' F' p => h σ' H' F' (p.sub k)
  | exc c ρ' => exact fun σ' H' F' p => h σ' H' F' (p.sub k)
  | ret d ρ' => exact fun σ' H' F' v Fd s r dj fr pr => h σ' H' F' v Fd s r dj fr ⟨pr.1, fun i hi => pr.2 i (k i hi)⟩
theorem ds_for {iter : Expr} {body : List Stmt} (hp : PassesOwn (model X.prog X.w) X.A X.env X.xe) (hc : X.calm = true) (hi : DI X W tg iter fi) (hg : DG X prot' tg t) (hb : DSs X W prot' body g) (hsub : ∀ i ∈ prot, i ∈ prot' := by decide)
    (hs : ∀ x, foldedSetIterable iter X.env x = pure x := by intro _; rfl) : DS X W prot (.For tg iter body [] pos) (dFor prot' t fi g) := by
  refine PS.imp (ps_for hp hc hi hg hb hs) fun σ H E q => ?_
  obtain ⟨ρ, F, a, s, e, q⟩ := q
  refine bndIE s e q.exc fun it ρ1 p J H1 F1 e1 P1 => ?_
  split at e1
  · rename_i hc
    obtain ⟨hneed, himm, hdep⟩ := hc
    have hdep' : ∀ i ∈ it.deps, i ∈ prot' := fun i hi => by
      have := List.all_eq_true.mp hdep i hi
      simpa using this
    obtain ⟨S, s0, wk, stab⟩ := P1.wk
    refine ⟨fun i m σ' H' => i + m = it.items.length ∧ ∃ ρ' F', PostS X.K prot' σ H1 F1 ρ' σ' H' F' ∧ dForL t g it.deps ρ1 (it.items.drop i) ρ' = some a,
      ⟨it.items.length, by simp, ρ1, F1, ⟨P1.s, Fr.refl _ _, Prot.refl⟩, e1⟩, ?_⟩
    rintro i m σ2 H2 ⟨him, ρ2, F2, P2, e2⟩
    have q2 : FinS X.K W prot' σ2 H2 F2 E a := (FinS.sub hsub q).from ⟨P2.s, P1.fr.trans P2.fr, P2.pr⟩
    have hS : depsOk it.deps ρ1 ρ2 = true → S H2 := fun hd => stab σ2 ρ2 H2 F2 P2.s P2.fr (fun j hj => ⟨P2.pr.2 j (hdep' j hj), depsOk_iff.mp hd j hj⟩) (by rw [hneed]; exact fun z => nomatch z)
    cases hd : it.items.drop i with
    | nil =>
      rw [hd] at e2
      unfold dForL at e2
      split at e2
      · rename_i hdo
        cases e2
        have hle : it.items.length ≤ i := List.drop_eq_nil_iff.mp hd
        exact .inl ⟨(wk H2 (hS hdo) i).1 hle, q2 σ2 H2 F2 ⟨P2.s, Fr.refl _ _, Prot.refl⟩⟩
      · cases e2
    | cons d r =>
      rw [hd] at e2
      unfold dForL at e2
      split at e2
      · rename_i hdo
        have hi : i < it.items.length := by
          rcases Nat.lt_or_ge i it.items.length with h | h
          · exact h
          · rw [List.drop_of_length_le h] at hd; cases hd
        have hget : it.items[i]? = some d := by
          have := congrArg List.head? hd
          rw [List.head?_drop] at this
          simpa using this
        have hrest : it.items.drop (i + 1) = r := by
          have := congrArg List.tail hd
          rw [List.tail_drop] at this
          simpa using this
        obtain ⟨go, yl⟩ := (wk H2 (hS hdo) i).2 d hget
        refine .inr ⟨go, ?_⟩
        cases et : t d ρ2 with
        | none => rw [et] at e2; cases e2
        | some ρ3 =>
          rw [et] at e2
          simp only at e2
          refine ⟨fun σ' H' => ∃ ρ' F', PostS X.K prot' σ H1 F1 ρ' σ' H' F' ∧ dForL t g it.deps ρ1 (it.items.drop (i + 1)) ρ' = some a, fun σ' H' ⟨ρ', F', h1, h2⟩ => ⟨m - 1, by omega, by omega, ρ', F', h1, h2⟩, ?_⟩
          intro x H3 hy
          obtain ⟨sm, G, rx⟩ := yl x H3 hy
          have rx' := rx.thin (immL_iff.mp himm d (List.mem_of_getElem? hget))
          refine ⟨d, ρ2, F2, fun _ => False, ρ3, rx', P2.s.same sm, fun _ z => z.elim, et, fun σ4 H4 F4 P4 sm4 => ?_⟩
          have fr4 : Fr H2 F2 H4 F4 := (Sm.fr sm).trans (P4.fr.more fun x z => z.elim (fun z => z) False.elim)
          have P24 : PostS X.K prot' σ H1 F1 ρ3 σ4 H4 F4 := ⟨P4.s, P2.fr.trans fr4, P2.pr.trans P4.pr⟩
          have q4 : FinS X.K W prot' σ4 H4 F4 E a := q2.from ⟨P4.s, fr4, P4.pr⟩
          split at e2
          · rename_i ρ5 hg5
            exact ⟨ρ3, F4, _, P4.s, hg5, fun σ' H' F' p => ⟨ρ5, F', P24.trans p, by rw [hrest]; exact e2⟩⟩
          · rename_i ρ5 hg5
            exact ⟨ρ3, F4, _, P4.s, hg5, fun σ' H' F' p => ⟨ρ5, F', P24.trans p, by rw [hrest]; exact e2⟩⟩
          · rename_i ρ5 hg5
            cases e2
            exact ⟨ρ3, F4, _, P4.s, hg5, q4⟩
          · rename_i h1 h2 h3
            exact ⟨ρ3, F4, a, P4.s, e2, q4.ends (fun ρ' ea => absurd (ea ▸ e2) (h1 ρ')) (fun ρ' ea => absurd (ea ▸ e2) (h3 ρ')) (fun ρ' ea => absurd (ea ▸ e2) (h2 ρ')) rfl⟩
      · cases e2
  · cases e1

/-! ### list comprehensions -/
omit [Tbs] in
def wipeR (ρ : Rho) : List Nat → Rho
  | [] => ρ
  | v :: vs => (wipeR ρ vs).set v none
theorem RepS.wipe {K : PySem.W.Frag} {H : Hp} {σ : St} {ρ : Rho} {F : FP} (s : RepS K H σ ρ F) : ∀ vs : List Nat, ∃ F', RepS K H (wipe σ vs) (wipeR ρ vs) F' ∧ ∀ a, F' a → F a
  | [] => ⟨F, s, fun _ f => f⟩
  | v :: vs => by
    obtain ⟨F', h1, h2⟩ := RepS.wipe s vs
    obtain ⟨F2, h3, h4⟩ := h1.drop v none
    exact ⟨F2, h3, fun a f => h2 a (h4 a f)⟩
theorem wipe_get {σ : St} {j : Nat} : ∀ {vs : List Nat}, j ∉ vs → (wipe σ vs)[j]? = σ[j]?
  | [], _ => rfl
  | v :: vs, h => by
    unfold wipe
    rw [List.getElem?_set_ne (show v ≠ j from fun z => h (by rw [z]; exact List.mem_cons_self))]
    exact wipe_get fun z => h (List.mem_cons_of_mem _ z)
theorem wipe_in {σ : St} {j : Nat} (hj : j < σ.length) : ∀ {vs : List Nat}, j ∈ vs → (wipe σ vs)[j]? = some none
  | v :: vs, h => by
    unfold wipe
    by_cases hv : v = j
    · subst hv
      rw [List.getElem?_set_self (by rw [wipe_length]; exact hj)]
    · rw [List.getElem?_set_ne hv]
      exact wipe_in hj ((List.mem_cons.mp h).resolve_left (Ne.symm hv))
theorem wipeR_length {ρ : Rho} : ∀ {vs : List Nat}, (wipeR ρ vs).length = ρ.length
  | [] => rfl
  | v :: vs => by unfold wipeR; rw [List.length_set, wipeR_length]
theorem wipeR_get {ρ : Rho} {j : Nat} : ∀ {vs : List Nat}, j ∉ vs → (wipeR ρ vs)[j]? = ρ[j]?
  | [], _ => rfl
  | v :: vs, h => by
    unfold wipeR
    rw [List.getElem?_set_ne (show v ≠ j from fun z => h (by rw [z]; exact List.mem_cons_self))]
    exact wipeR_get fun z => h (List.mem_cons_of_mem _ z)
theorem wipeR_in {ρ : Rho} {j : Nat} (hj : j < ρ.length) : ∀ {vs : List Nat}, j ∈ vs → (wipeR ρ vs)[j]? = some none
  | v :: vs, h => by
    unfold wipeR
    by_cases hv : v = j
    · subst hv
      rw [List.getElem?_set_self (by rw [wipeR_length]; exact hj)]
    · rw [List.getElem?_set_ne hv]
      exact wipeR_in hj ((List.mem_cons.mp h).resolve_left (Ne.symm hv))
/-- slots of which nothing is known may hold anything -/
theorem RepS0.reset {K : PySem.W.Frag} {H : Hp} : ∀ {σ σ' : St} {ρ : Rho} {F : FP}, RepS0 K H σ ρ F → σ'.length = σ.length → (∀ i : Nat, ρ[i]? = some none ∨ σ'[i]? = σ[i]?) → RepS0 K H σ' ρ F
  | [], [], _, _, .nil e, _, _ => .nil e
  | _ :: _, _ :: _, _, _, .hole s, hl, h => .hole (RepS0.reset s (by simpa using hl) fun i => by simpa using h (i + 1))
  | _ :: _, y :: _, _, _, .cons r s n e, hl, h => by
    have h0 := h 0
    simp at h0
    subst h0
    exact .cons r (RepS0.reset s (by simpa using hl) fun i => by simpa using h (i + 1)) n e
theorem wipe_eq {σ σ2 : St} {vs : List Nat} (hl : σ2.length = σ.length) (h : ∀ j, j ∉ vs → σ2[j]? = σ[j]?) : wipe σ2 vs = wipe σ vs := by
  apply List.ext_getElem?
  intro j
  by_cases hj : j ∈ vs
  · by_cases hlt : j < σ.length
    · rw [wipe_in hlt hj, wipe_in (by omega) hj]
    · rw [List.getElem?_eq_none (by rw [wipe_length]; omega), List.getElem?_eq_none (by rw [wipe_length]; omega)]
  · rw [wipe_get hj, wipe_get hj, h j hj]
omit [Tbs] in
/-- all slots but these -/
def butSlots (n : Nat) (vs : List Nat) : List Nat := (List.range n).filter fun i => !vs.contains i
theorem mem_but {n : Nat} {vs : List Nat} {j : Nat} : j ∈ butSlots n vs ↔ j < n ∧ j ∉ vs := by simp [butSlots]
omit [Tbs] in
def lcL (vs : List Nat) (tg : D → Rho → Option Rho) (tt : EvB) (fe : Ev) (deps : List Nat) (need : Bool) (ρ0 : Rho) : List D → Rho → List D → Bool → Option (Rho × List D × Bool)
  | [], ρ, acc, p => if depsOk deps ρ0 ρ && (!need || p) then some (ρ, acc, p) else none
  | d :: r, ρ, acc, p => if depsOk deps ρ0 ρ && (!need || p) then match tg d ρ with
      | some ρ1 => match tt ρ1 with
        | some (.ok true ρ2 p2) => match fe ρ2 with
          | some (.ok re ρ3 p3) => match takeR ρ3 re with
            | some (y, ρ4) => if acc.length < LIM then lcL vs tg tt fe deps need ρ0 r (wipeR ρ4 vs) (acc ++ [y]) (p && (p2 && p3)) else none
            | none => none
          | _ => none
        | some (.ok false ρ2 p2) => lcL vs tg tt fe deps need ρ0 r (wipeR ρ2 vs) acc (p && p2)
        | _ => none
      | none => none
    else none
omit [Tbs] in
def dLc (vs : List Nat) (tg : D → Rho → Option Rho) (fi : EvI) (tt : EvB) (fe : Ev) : Ev := bndI .exc fi fun it ρ p =>
  if immL it.items = true ∧ (it.deps.all fun i => !vs.contains i) = true then (lcL vs tg tt fe it.deps it.need (wipeR ρ vs) it.items (wipeR ρ vs) [] true).map fun z => .ok (.own (.lst z.2.1)) z.1 (p && z.2.2) else none
omit [Tbs] in
def W0 : WX := fun _ _ _ _ => False
def DTs (X : Cx) (W : WX) (ifs : List Expr) (f : EvB) : Prop := PTs X ifs (wpB X.K W f)
theorem PTs.imp {X : Cx} {e : List Expr} {t t' : TT} (h : PTs X e t) (k : ∀ σ H Q, t' σ H Q → t σ H Q) : PTs X e t' :=
  ⟨fun pins s σ H Q I q => h.run pins s σ H Q I (k σ H Q q)⟩
omit [Tbs] in
def dYes : EvB := fun ρ => some (.ok true ρ true)
theorem dts_nil : DTs X W [] dYes := PTs.imp pts_nil fun σ H Q h => by
  obtain ⟨ρ, F, a, s, e, q⟩ := h
  cases e
  exact q H F ⟨s, Fr.refl H F⟩ fun _ => Sm.refl H
theorem dts_one {tt : EvB} (h : DT X W e tt) : DTs X W [e] tt := pts_one h
/-- how it stands between two turns -/
structure LcI (K : PySem.W.Frag) (σ : St) (vs : List Nat) (H1 : Hp) (F1 : FP) (Dd : Addr) (fin : Rho → List D → Bool → Prop) (H2 : Hp) (ρ2 : Rho) (F2 : FP) (acc : List D) (av : List V) (Ga : FP) (pp : Bool) : Prop where
  s : RepS K H2 (wipe σ vs) ρ2 F2
  fr : Fr H1 F1 H2 F2
  pu : pp = true → Sm H1 H2
  atD : H2 Dd = some (.lst av)
  len : av.length ≤ sizeLine
  ra : RepL K H2 av acc Ga
  nG : ¬ Ga Dd
  nF : ¬ F2 Dd
  dj : Disj Ga F2
  kG : ∀ x, Ga x → F1 x ∨ Fre H1 x
  hw : ∀ j ∈ vs, j < ρ2.length → ρ2[j]? = some none
  go : fin ρ2 acc pp
/-- a turn that makes nothing -/
theorem LcI.skip {K : PySem.W.Frag} {σ : St} {vs : List Nat} {H1 H2 H5 : Hp} {F1 F2 F6 : FP} {Dd : Addr} {fin fin' : Rho → List D → Bool → Prop} {ρ2 ρ5 : Rho} {acc : List D} {av : List V} {Ga : FP} {pp p5 : Bool}
    (I : LcI K σ vs H1 F1 Dd fin H2 ρ2 F2 acc av Ga pp) (s6 : RepS K H5 (wipe σ vs) (wipeR ρ5 vs) F6) (fr : Fr H2 F2 H5 F6) (pu : p5 = true → Sm H2 H5) (g : fin' (wipeR ρ5 vs) acc (pp && p5)) :
    LcI K σ vs H1 F1 Dd fin' H5 (wipeR ρ5 vs) F6 acc av Ga (pp && p5) where
  s := s6
  fr := I.fr.trans fr
  pu := fun z => by simp at z; exact (I.pu z.1).trans (pu z.2)
  atD := fr.out Dd _ I.atD rfl I.nF
  len := I.len
  ra := fr.repL I.ra I.dj
  nG := I.nG
  nF := fun z => (fr.new Dd z).elim I.nF fun z => nomatch z _ I.atD
  dj := fr.apart (dom_ne I.ra.dom) I.dj
  kG := I.kG
  hw := fun j hj hlt => wipeR_in (by rw [wipeR_length] at hlt; exact hlt) hj
  go := g
theorem RepS.reset {K : PySem.W.Frag} {H : Hp} {σ σ' : St} {ρ : Rho} {F : FP} (s : RepS K H σ ρ F) (hl : σ'.length = σ.length) (h : ∀ i : Nat, ρ[i]? = some none ∨ σ'[i]? = σ[i]?) : RepS K H σ' ρ F := ⟨s.r.reset hl h, s.tb⟩
/-- the reading of a comprehension -/
theorem lc_core {K : PySem.W.Frag} {n : Nat} {vs : List Nat} {tt : EvB} {gt : TG} (hgt : ∀ v σ H Q, wpG K (butSlots n vs) t v σ H Q → gt v σ H Q) {σ : St} (hn : σ.length ≤ n) {H : Hp} {Q : VK} (h : wpE K W (dLc vs t fi tt fe) σ H Q) :
    tLc (wpI K W fi) gt (wpB K W0 tt) (wpE K W0 fe) vs σ H Q := by
  obtain ⟨ρ, F, a, s, e, q⟩ := h
  refine bndIE s e q.exc fun it ρ1 p J H1 F1 e1 P1 => ?_
  split at e1
  · rename_i hc
    obtain ⟨himm, hdep⟩ := hc
    have hdep' : ∀ i ∈ it.deps, i ∉ vs := fun i hi => by
      have := List.all_eq_true.mp hdep i hi
      simpa using this
    cases el : lcL vs t tt fe it.deps it.need (wipeR ρ1 vs) it.items (wipeR ρ1 vs) [] true with
    | none => rw [el] at e1; cases e1
    | some z =>
      rw [el] at e1
      cases e1
      obtain ⟨S, s0, wk, stab⟩ := P1.wk
      intro Dd hDd
      obtain ⟨Fw, sw, kw⟩ := P1.s.wipe vs
      have smD : Sm H1 (upd H1 Dd (.lst [])) := Sm.new hDd
      refine ⟨fun i m H2 => i + m = it.items.length ∧ ∃ ρ2 F2 acc av Ga pp, LcI K σ vs H1 F1 Dd (fun ρ2 acc pp => lcL vs t tt fe it.deps it.need (wipeR ρ1 vs) (it.items.drop i) ρ2 acc pp = some z) H2 ρ2 F2 acc av Ga pp,
        ⟨it.items.length, by simp, wipeR ρ1 vs, Fw, [], [], fun _ => False, true, ⟨sw.same smD, (Fr.of_same smD fun x z => .inl (kw x z)), fun _ => smD, upd_same, Nat.zero_le _, .nil fun _ z => z, fun z => z, fun z => dom_ne sw.dom Dd z (.of hDd), fun _ z => z.elim, fun _ z => z.elim,
          fun j hj hlt => wipeR_in (by rw [wipeR_length] at hlt; exact hlt) hj, el⟩⟩, ?_⟩
      rintro i m H2 ⟨him, ρ2, F2, acc, av, Ga, pp, I⟩
      have e2 := I.go
      have hS : (depsOk it.deps (wipeR ρ1 vs) ρ2 && (!it.need || pp)) = true → S H2 := fun hd => by
        simp at hd
        refine stab (wipe σ vs) ρ2 H2 F2 I.s I.fr (fun j hj => ⟨wipe_get (hdep' j hj), ?_⟩) fun hne => I.pu ?_
        · rw [depsOk_iff.mp hd.1 j hj, wipeR_get (hdep' j hj)]
        · rcases hd.2 with z | z
          · rw [hne] at z; cases z
          · exact z
      cases hd : it.items.drop i with
      | nil =>
        rw [hd] at e2
        unfold lcL at e2
        split at e2
        · rename_i hdo
          cases e2
          have hle : it.items.length ≤ i := List.drop_eq_nil_iff.mp hd
          refine .inl ⟨(wk H2 (hS hdo) i).1 hle, ?_⟩
          have s3 : RepS K H2 σ ρ2 F2 := by
            refine I.s.reset (by rw [wipe_length]) fun j => ?_
            by_cases hj : j ∈ vs
            · by_cases hlt : j < ρ2.length
              · exact .inl (I.hw j hj hlt)
              · have hl := I.s.length
                refine .inr ?_
                rw [List.getElem?_eq_none (by rw [wipe_length] at hl; omega), List.getElem?_eq_none (by rw [wipe_length] at hl ⊢; omega)]
            · exact .inr (wipe_get hj).symm
          refine q (.ref Dd) H2 F2 (fun x => x = Dd ∨ Ga x) ⟨s3, .lst I.atD I.len I.ra I.nG fun _ => Iff.rfl, ?_, ?_, ?_⟩
          · rintro x (z | z) w
            · exact I.nF (z ▸ w)
            · exact I.dj x z w
          · refine P1.fr.trans ⟨I.fr.out, I.fr.imm, fun x z => ?_, I.fr.tb⟩
            rcases z with z | z | z
            · exact I.fr.new x z
            · exact .inr (z ▸ .of hDd)
            · exact I.kG x z
          · intro z
            simp at z
            exact (P1.pu z.1).trans (I.pu z.2)
        · cases e2
      | cons d r =>
        rw [hd] at e2
        unfold lcL at e2
        split at e2
        · rename_i hdo
          have hi : i < it.items.length := by
            rcases Nat.lt_or_ge i it.items.length with h | h
            · exact h
            · rw [List.drop_of_length_le h] at hd; cases hd
          have hget : it.items[i]? = some d := by
            have := congrArg List.head? hd
            rw [List.head?_drop] at this
            simpa using this
          have hrest : it.items.drop (i + 1) = r := by
            have := congrArg List.tail hd
            rw [List.tail_drop] at this
            simpa using this
          obtain ⟨go, yl⟩ := (wk H2 (hS hdo) i).2 d hget
          refine .inr ⟨go, ?_⟩
          cases et : t d ρ2 with
          | none => rw [et] at e2; cases e2
          | some ρ3 =>
            rw [et] at e2
            simp only at e2
            refine ⟨fun H2 => ∃ ρ2 F2 acc av Ga pp, LcI K σ vs H1 F1 Dd (fun ρ2 acc pp => lcL vs t tt fe it.deps it.need (wipeR ρ1 vs) (it.items.drop (i + 1)) ρ2 acc pp = some z) H2 ρ2 F2 acc av Ga pp, fun H' h => ⟨m - 1, by omega, by omega, h⟩, ?_⟩
            intro x H3 hy
            obtain ⟨sm, G, rx⟩ := yl x H3 hy
            have rx' := rx.thin (immL_iff.mp himm d (List.mem_of_getElem? hget))
            refine hgt _ _ _ _ ⟨d, ρ2, F2, fun _ => False, ρ3, rx', I.s.same sm, fun _ z => z.elim, et, fun σ4 H4 F4 P4 sm4 => ?_⟩
            have fr4 : Fr H2 F2 H4 F4 := (Sm.fr sm).trans (P4.fr.more fun x z => z.elim (fun z => z) False.elim)
            have hw4 : wipe σ4 vs = wipe σ vs := by
              have hl4 : σ4.length = σ.length := by rw [P4.pr.1, wipe_length]
              refine wipe_eq hl4 fun j hj => ?_
              by_cases hlt : j < n
              · rw [P4.pr.2 j (mem_but.mpr ⟨hlt, hj⟩), wipe_get hj]
              · rw [List.getElem?_eq_none (by omega), List.getElem?_eq_none (by omega)]
            refine ⟨hw4, ?_⟩
            cases ett : tt ρ3 with
            | none => rw [ett] at e2; cases e2
            | some b4 =>
              rw [ett] at e2
              cases b4 with
              | exc c ρ' => cases e2
              | ok b ρ5 p5 =>
                refine ⟨ρ3, F4, _, P4.s, ett, fun H5 F5 P5 u5 => ?_⟩
                have fr5 : Fr H2 F2 H5 F5 := fr4.trans P5.fr
                have pu5 : p5 = true → Sm H2 H5 := fun z => (sm.trans sm4).trans (u5 z)
                cases b with
                | false =>
                  simp only at e2
                  obtain ⟨F6, s6, k6⟩ := P5.s.wipe vs
                  rw [hw4] at s6
                  show ∃ ρ2 F2 acc av Ga pp, LcI K σ vs H1 F1 Dd (fun ρ2 acc pp => lcL vs t tt fe it.deps it.need (wipeR ρ1 vs) (it.items.drop (i + 1)) ρ2 acc pp = some z) H5 ρ2 F2 acc av Ga pp
                  exact ⟨wipeR ρ5 vs, F6, acc, av, Ga, pp && p5, I.skip (fin' := fun ρ2 acc pp => lcL vs t tt fe it.deps it.need (wipeR ρ1 vs) (it.items.drop (i + 1)) ρ2 acc pp = some z) s6 (fr5.less k6) pu5 (by rw [hrest]; exact e2)⟩
                | true =>
                  simp only at e2
                  show wpE K W0 fe σ4 H5 _
                  cases efe : fe ρ5 with
                  | none => rw [efe] at e2; cases e2
                  | some r6 =>
                    rw [efe] at e2
                    cases r6 with
                    | exc c ρ' => cases e2
                    | ok re ρ6 p6 =>
                      simp only at e2
                      refine ⟨ρ5, F5, _, P5.s, efe, fun y H7 F7 Fd7 P7 => ?_⟩
                      cases etk : takeR ρ6 re with
                      | none => rw [etk] at e2; cases e2
                      | some yz =>
                        obtain ⟨yd, ρ7⟩ := yz
                        rw [etk] at e2
                        simp only at e2
                        split at e2
                        · rename_i hlim
                          obtain ⟨F8, Fe, s8, r8, dj8, k1, k2⟩ := takeR_ok P7.s P7.r P7.dj etk
                          obtain ⟨F9, s9, k9⟩ := s8.wipe vs
                          rw [hw4] at s9
                          have frE : Fr H5 F5 H7 (orF F9 Fe) := P7.fr.less fun x z => z.elim (fun z => .inl (k1 x (k9 x z))) (k2 x)
                          have fr7 : Fr H2 F2 H7 (orF F9 Fe) := fr5.trans frE
                          have fr7' : Fr H2 F2 H7 F9 := fr7.less fun x z => .inl z
                          have J := I.skip (fin' := fun _ _ _ => True) (ρ5 := ρ7) (p5 := p5 && p6) s9 fr7' (fun z => by simp at z; exact (pu5 z.1).trans (P7.pu z.2)) trivial
                          have hal : av.length = acc.length := J.ra.length
                          refine ⟨av, J.atD, lim_lt (by omega), ?_⟩
                          have nFe : ¬ Fe Dd := fun z => (fr7.new Dd (.inr z)).elim I.nF fun z => nomatch z _ I.atD
                          have djE : Disj Ga Fe := fun x g f => by
                            have := fr7.apart (dom_ne I.ra.dom) I.dj x g
                            exact this (.inr f)
                          have uk := upd_keep (u := .lst (av ++ [y])) J.atD rfl
                          have sU : Sm H1 H7 → Sm H1 (upd H7 Dd (.lst (av ++ [y]))) := fun k => ⟨fun b o hb hn => by
                            have nb : b ≠ Dd := fun z => by rw [z, hDd] at hb; cases hb
                            rw [upd_ne nb]
                            exact k.k b o hb hn, k.tb.trans (.but J.atD rfl uk.1)⟩
                          have ry1 : RepL K (upd H7 Dd (.lst (av ++ [y]))) [y] [yd] Fe := .cons (F2 := fun _ => False) (r8.keep (fun b o g h => uk.1 b o h fun z => nFe (z ▸ g)) uk.2) (.nil fun _ z => z) (fun _ _ z => z) fun _ => by simp
                          have ra1 := J.ra.keep (fun b o g h => uk.1 b o h fun z => J.nG (z ▸ g)) uk.2
                          have frU : Fr H1 F1 (upd H7 Dd (.lst (av ++ [y]))) F9 := ⟨fun b o hb hn nb => by
                              have nz : b ≠ Dd := fun z => by rw [z, hDd] at hb; cases hb
                              exact uk.1 b o (J.fr.out b o hb hn nb) nz, fun b o hb m => uk.2 b o (J.fr.imm b o hb m) m, J.fr.new, J.fr.tb.trans (.but J.atD rfl uk.1)⟩
                          refine ⟨wipeR ρ7 vs, F9, acc ++ [yd], av ++ [y], fun x => Ga x ∨ Fe x, pp && (p5 && p6), ⟨s9.keep (fun b o g h => uk.1 b o h fun z => J.nF (z ▸ g)) uk.2 (.but J.atD rfl uk.1), frU, fun z => sU (J.pu z), upd_same, ?_, ra1.append ry1 djE fun _ => Iff.rfl, ?_, J.nF, ?_, ?_, J.hw, by rw [hrest]; exact e2⟩⟩
                          · rw [List.length_append]; exact lim_line (by show av.length + 1 ≤ LIM; omega)
                          · exact fun z => z.elim J.nG nFe
                          · rintro x (f | f) g
                            · exact J.dj x f g
                            · exact dj8 x f (k9 x g)
                          · rintro x (f | f)
                            · exact I.kG x f
                            · exact (I.fr.trans fr7).new x (.inr f)
                        · cases e2
        · cases e2
  · cases e1
end
end PD
end
section
set_option Elab.async false
set_option linter.all false
set_option autoImplicit false
set_option maxRecDepth 100000
/-! Comprehensions as they stand; what a def does; calls of defs. -/
namespace PD
open PySem PySem.Spec L2

variable [Tbs]
section
variable {X : Cx} {W : WX} {prot : List Nat} {e a b tg elt iter : Expr} {es ifs : List Expr} {f fe : Ev} {fl : EvL} {fi : EvI} {pos : Pos} {tt : EvB} {t : D → Rho → Option Rho}
/-- [elt for tg in iter if ..]; own: the block's own names with their slots -/
theorem de_lc {scope : Scope} (own : List (Str × Nat)) (hc : X.calm = true) (hN : X.N.Nodup) (hi : DI X W tg iter fi) (ok : BlkOk X.N X.env.scope scope own)
    (hg : ∀ (s : Shared) (H : Hp) (C : Addr) (cl : List (Str × Addr)) (fp : List Addr), DG (X.blk s H scope (compEnvC scope cl C X.env) fp) (butSlots X.N.length (own.map (·.2))) tg t)
    (ht : ∀ (s : Shared) (H : Hp) (C : Addr) (cl : List (Str × Addr)) (fp : List Addr), DTs (X.blk s H scope (compEnvC scope cl C X.env) fp) W0 ifs tt)
    (he : ∀ (s : Shared) (H : Hp) (C : Addr) (cl : List (Str × Addr)) (fp : List Addr), DE (X.blk s H scope (compEnvC scope cl C X.env) fp) W0 elt fe)
    (hf : ∀ x, foldedSetIterable iter X.env x = pure x := by intro _; rfl) : DE X W (.ListComp elt [⟨tg, iter, ifs, 0⟩] scope pos) (dLc (own.map (·.2)) t fi tt fe) := by
  refine ⟨fun pins s σ H Q I q => ?_⟩
  exact (pe_lc (g := wpG X.K (butSlots X.N.length (List.map (fun x : Str × Nat => x.snd) own)) t) (tt := wpB X.K W0 tt) (te := wpE X.K W0 fe) hc hN hi ok hg ht he hf).run pins s σ H Q I (lc_core (n := X.N.length) (fun _ _ _ _ h => h) (by rw [I.len]; exact Nat.le_refl _) q)
/-- y = [elt for tg in iter if ..] -/
theorem ds_setLc {scope : Scope} (i : Nat) {y : Str} {py spos : Pos} (own : List (Str × Nat)) (hc : X.calm = true) (hN : X.N.Nodup) (hi : DI X W tg iter fi) (ok : BlkOk X.N X.env.scope scope own)
    (hg : ∀ (s : Shared) (H : Hp) (C : Addr) (cl : List (Str × Addr)) (fp : List Addr), DG (X.blk s H scope (compEnvC scope cl C X.env) fp) (butSlots X.N.length (own.map (·.2))) tg t)
    (ht : ∀ (s : Shared) (H : Hp) (C : Addr) (cl : List (Str × Addr)) (fp : List Addr), DTs (X.blk s H scope (compEnvC scope cl C X.env) fp) W0 ifs tt)
    (he : ∀ (s : Shared) (H : Hp) (C : Addr) (cl : List (Str × Addr)) (fp : List Addr), DE (X.blk s H scope (compEnvC scope cl C X.env) fp) W0 elt fe)
    (hp : i ∉ prot := by decide) (hy : X.N[i]? = some y := by rfl) (hyl : X.env.scope.names.lookup y = some .local := by rfl)
    (hsw : swapsWith (.ListComp elt [⟨tg, iter, ifs, 0⟩] scope pos) (some (.Name y py)) spos.line X.env = pure true := by exact sw_true rfl rfl rfl (by decide +kernel))
    (hf : ∀ x, foldedSetIterable iter X.env x = pure x := by intro _; rfl) : DS X W prot (.Assign [.Name y py] (.ListComp elt [⟨tg, iter, ifs, 0⟩] scope pos) spos) (dAsg (tName i) (dLc (own.map (·.2)) t fi tt fe)) := by
  refine ⟨fun pins s σ H E I q => ?_⟩
  refine (ps_setLc (g := wpG X.K (butSlots X.N.length (List.map (fun x : Str × Nat => x.snd) own)) t) (tt := wpB X.K W0 tt) (te := wpE X.K W0 fe) hc hN hy hyl hsw hi ok hg ht he hf).run pins s σ H E I ?_
  have q1 := asg_core q
  have q2 : wpE X.K W (dLc (own.map (·.2)) t fi tt fe) σ H fun x H1 => gName i x σ H1 E.nx := by
    obtain ⟨ρ, F, a, s, e, q⟩ := q1
    refine ⟨ρ, F, a, s, e, ?_⟩
    cases a with
    | exc c ρ' => exact q
    | ok r ρ' p => exact fun v H' F' Fd P => gName_ok hp (q v H' F' Fd P)
  exact lc_core (n := X.N.length) (fun _ _ _ _ h => h) (by rw [I.len]; exact Nat.le_refl _) q2
end

/-! ### what a def does -/
omit [Tbs] in
inductive FAns where
  | ok (d : D) (post : Rho)
  | exc (c : Value) (post : Rho)
/-- a def's promise, by what it does to trees -/
def spD (K : PySem.W.Frag) (φ : List D → Option FAns) : Sp := fun vs H Q E => ∃ ds F a, RepL K H vs ds F ∧ LamX.Tabs Tbs.T H ∧ φ ds = some a ∧ match a with
  | .ok d post => ∀ v H' F' Fd, RepS K H' (vs.map some) post F' → Rep K H' v d Fd → Disj Fd F' → Fr H F H' (orF F' Fd) → Q v H'
  | .exc c post => ∀ H' F', RepS K H' (vs.map some) post F' → Fr H F H' F' → E c none H'
omit [Tbs] in
/-- a def that keeps its promise, wherever nothing is being printed -/
structure FnG (P : Program) (w : World) (K : PySem.W.Frag) (mg : Str → Option Value) (base : Heap) (k : Nat) (gd : Bool) (f : Addr) (fd : FuncData) (ps : List Str) (sp : Sp) : Prop where
  len : ∀ vs H Q E, sp vs H Q E → vs.length = ps.length
  run : ∀ (A : Around) (outer : List Env) (s : Shared) (H : Hp) (args : Args) (us : List Value) (vs : List V) (Q : VK) (E : XK), Room k A → (gd = true → A.guards = some []) → Env0 P w K mg base A outer s H → BindsTo s fd args (ps.zip us) → Vals vs us →
    sp vs H Q E → codeAny (model P w) A (.call (.ref f) args) (CR (L2.CX P w) outer P w H s Q E) s
section
variable {P : Program} {w : World} {K : PySem.W.Frag} {mg : Str → Option Value} {base : Heap}
omit [Tbs] in
abbrev FunP (K : PySem.W.Frag) (x : Str) (st : Stmt) (f : Addr) (fd : FuncData) : Prop := FunD K x x (defArgs st) (defBody st) (defScope st) [] [] f fd
theorem FnG.of {x : Str} {st : Stmt} {f : Addr} {fd : FuncData} {N ps : List Str} {k : Nat} {gd : Bool} {sp : Sp} (F : FunP K x st f fd) (S : FnScope N ps (defScope st)) (len : ∀ vs H Q E, sp vs H Q E → vs.length = ps.length)
    (hb : ∀ (cdv : Value) (A : Around) (outer : List Env) (s : Shared) (H : Hp) (vs : List V) (Q : VK) (E : XK), fd.code = cdv → Room k (A.deeper (PyProof.Rows.envOfC x (defScope st) s.heap.objs.size f cdv)) → (gd = true → A.guards = some []) → sp vs H Q E →
      ∃ t, PSs (cxOf (L2.CX P w) P w K mg base N x (defScope st) f cdv A outer s H E) (defBody st) t ∧ t { nx := fun _ H' => Q .non H', rt := Q } (start N vs) H) : FnG P w K mg base (k + 1) gd f fd ps sp := by
  obtain ⟨oc, od, dV, kV, doc, pm, an, cdv, ct, osl, rfl, lk, hcd, _, _⟩ := F.ex
  refine ⟨len, ?_⟩
  intro A outer s H args us vs Q E room gds e0 bd rv hs
  have n1 := len _ _ _ _ hs
  have stays : ∀ b o, base.get? b = some o → s.heap.get? b = some o := fun b o q => (e0.bs b o q).1
  have KS : K.In s.heap := e0.mod.kin.keeps stays
  have noLim : s.heap.NoLimit := e0.mod.nolimit.keeps stays
  have kinds : ∀ y ∈ ps.zip us, (defScope st).names.lookup y.1 = some .local ∨ ((defScope st).names.lookup y.1 = some .cell ∧ ((cellsFrom (s.heap.objs.size + 1) (defScope st).names []).lookup y.1).isSome = true) := by
    rintro ⟨n, v⟩ hy
    exact (S.par n (List.of_mem_zip hy).1).imp (fun z => z) fun z => ⟨z, PySem.W.cellsFrom_some _ _ _ (.inl z)⟩
  refine codeAny_call_function room.depth (KS _ _ lk) rfl S.co S.gen rfl (PySem.W.codeRec_of KS hcd) (bd _ _ _ _ ?_)
  refine wpAny_newFunctionEnv_cells S.kind kinds ?_
  intro env he s1 ic
  subst he
  refine ⟨noLim.keeps ic.toInCall.keep, codeAny_func ?_⟩
  obtain ⟨t, body, reads⟩ := hb cdv A outer s H vs Q E rfl (room.deeper _) gds hs
  have I0 : L2.Inv (cxOf (L2.CX P w) P w K mg base N x (defScope st) f cdv A outer s H E) [] (start N vs) H s1 := inv_start S room.hd e0 n1 rv ic
  refine wpAny_mono (body.run [] s1 (start N vs) H _ I0 reads) ?_ (fun _ _ z => z)
  intro fl s2 end2
  have out : ∀ {σ2 : L2.St} {H2 : Hp} {v : V} {u : Value}, L2.Inv (cxOf (L2.CX P w) P w K mg base N x (defScope st) f cdv A outer s H E) [] σ2 H2 s2 → RelV v u → Q v H2 → CE outer P w H s Q u s2 := by
    intro σ2 H2 v u J rv2 qv
    exact ⟨v, H2, J.os, J.bare, J.base, J.hok, rv2, qv⟩
  cases fl with
  | next =>
    obtain ⟨σ2, H2, J, qv⟩ := end2
    exact out (v := V.non) (u := Value.none) J rfl qv
  | ret u =>
    obtain ⟨v, σ2, H2, J, rv2, qv⟩ := end2
    exact out J rv2 qv
  | brk =>
    obtain ⟨_, _, _, z⟩ := end2
    exact z.elim
  | cont =>
    obtain ⟨_, _, _, z⟩ := end2
    exact z.elim
omit [Tbs] in
def maskR : List Bool → Rho → Rho
  | [], _ => []
  | b :: bs, r :: rs => (if b = true then r else none) :: maskR bs rs
  | _ :: bs, [] => none :: maskR bs []
theorem RepS0.mask {K : PySem.W.Frag} {H : Hp} : ∀ {keep : List Bool} {vs : List V} {σ : L2.St} {ρ : Rho} {F : FP}, RepS0 K H σ ρ F → vs.length = keep.length → (∀ (i : Nat) (v : V), keep[i]? = some true → vs[i]? = some v → σ[i]? = some (some v)) →
    ∃ F', RepS0 K H (vs.map some) (maskR keep ρ) F' ∧ ∀ x, F' x → F x
  | [], [], _, _, F, _, _, _ => ⟨fun _ => False, .nil fun _ z => z, fun _ z => z.elim⟩
  | b :: bs, v :: vs, _, _, F, .nil e, hl, h => by
    obtain ⟨F', h1, h2⟩ := RepS0.mask (keep := bs) (vs := vs) (RepS0.nil (F := F) e) (by simpa using hl) fun i v' h1 h2 => by
      have := h (i + 1) v' (by simpa using h1) (by simpa using h2)
      simp at this
    exact ⟨F', .hole h1, h2⟩
  | b :: bs, v :: vs, _, _, F, .hole s, hl, h => by
    obtain ⟨F', h1, h2⟩ := RepS0.mask (keep := bs) (vs := vs) s (by simpa using hl) fun i v' h1 h2 => by simpa using h (i + 1) v' (by simpa using h1) (by simpa using h2)
    refine ⟨F', ?_, h2⟩
    cases b <;> exact .hole h1
  | b :: bs, v :: vs, _, _, F, .cons (v := w) (F1 := F1) (F2 := F2) r s n e, hl, h => by
    obtain ⟨F', h1, h2⟩ := RepS0.mask (keep := bs) (vs := vs) s (by simpa using hl) fun i v' h1 h2 => by simpa using h (i + 1) v' (by simpa using h1) (by simpa using h2)
    cases b with
    | false => exact ⟨F', .hole h1, fun x z => (e x).mpr (.inr (h2 x z))⟩
    | true =>
      have := h 0 v rfl rfl
      simp at this
      subst this
      exact ⟨fun x => F1 x ∨ F' x, .cons r h1 (fun x f g => n x f (h2 x g)) fun _ => Iff.rfl, fun x z => (e x).mpr (z.imp (fun z => z) (h2 x))⟩
theorem RepS0.start {K : PySem.W.Frag} {H : Hp} {m : Nat} : ∀ {vs : List V} {ds : List D} {F : FP}, RepL K H vs ds F → RepS0 K H (vs.map some ++ List.replicate m none) (ds.map some ++ List.replicate m none) F
  | _, _, F, .nil e => by
    have : ∀ m : Nat, RepS0 K H (List.replicate m none) (List.replicate m none) F := fun m => by
      induction m with
      | zero => exact .nil e
      | succ m ih => exact .hole ih
    simpa using this m
  | _, _, _, .cons r s n e => .cons r (RepS0.start s) n e
theorem RepS.mask {K : PySem.W.Frag} {H : Hp} {keep : List Bool} {vs : List V} {σ : L2.St} {ρ : Rho} {F : FP} (s : RepS K H σ ρ F) (hl : vs.length = keep.length) (h : ∀ (i : Nat) (v : V), keep[i]? = some true → vs[i]? = some v → σ[i]? = some (some v)) :
    ∃ F', RepS K H (vs.map some) (maskR keep ρ) F' ∧ ∀ x, F' x → F x := by
  obtain ⟨F', h1, h2⟩ := s.r.mask hl h
  exact ⟨F', ⟨h1, s.tb⟩, h2⟩
theorem RepS.start {K : PySem.W.Frag} {H : Hp} {m : Nat} {vs : List V} {ds : List D} {F : FP} (r : RepL K H vs ds F) (tb : LamX.Tabs Tbs.T H) : RepS K H (vs.map some ++ List.replicate m none) (ds.map some ++ List.replicate m none) F := ⟨RepS0.start r, tb⟩
omit [Tbs] in
/-- the def, from its body -/
def defD0 (nSlots : Nat) (keep : List Bool) (g : Sv) : List D → Option FAns := fun ds => if ds.length = keep.length then match g (ds.map some ++ List.replicate (nSlots - keep.length) none) with
    | some (.ret d ρ) => some (.ok d (maskR keep ρ))
    | some (.nx ρ) => some (.ok .non (maskR keep ρ))
    | some (.exc c ρ) => some (.exc c (maskR keep ρ))
    | _ => none
  else none
omit [Tbs] in
theorem defD_ex : ∃ f : Nat → List Bool → Sv → List D → Option FAns, ∀ N k g ds, f N k g ds = defD0 N k g ds := ⟨defD0, fun _ _ _ _ => rfl⟩
omit [Tbs] in
/-- (kept from the kernel's hands) -/
noncomputable def defD : Nat → List Bool → Sv → List D → Option FAns := Classical.choose defD_ex
omit [Tbs] in
theorem defD_eq (nSlots : Nat) (keep : List Bool) (g : Sv) (ds : List D) : defD nSlots keep g ds = if ds.length = keep.length then match g (ds.map some ++ List.replicate (nSlots - keep.length) none) with
    | some (.ret d ρ) => some (.ok d (maskR keep ρ))
    | some (.nx ρ) => some (.ok .non (maskR keep ρ))
    | some (.exc c ρ) => some (.exc c (maskR keep ρ))
    | _ => none
  else none := Classical.choose_spec defD_ex nSlots keep g ds
omit [Tbs] in
/-- the slots of parameters that are kept -/
def keptS (keep : List Bool) : List Nat := (List.range keep.length).filter fun i => keep[i]? == some true
theorem mem_kept {keep : List Bool} {i : Nat} : i ∈ keptS keep ↔ keep[i]? = some true := by
  simp only [keptS, List.mem_filter, List.mem_range, beq_iff_eq]
  exact ⟨fun h => h.2, fun h => ⟨(List.getElem?_eq_some_iff.mp h).1, h⟩⟩
theorem fng_def {x : Str} {st : Stmt} {f : Addr} {fd : FuncData} {N ps : List Str} {k : Nat} {gd : Bool} {keep : List Bool} {g : Sv} (F : FunP K x st f fd) (S : FnScope N ps (defScope st)) (hk : keep.length = ps.length)
    (hb : ∀ (X : Cx) (W : WX) (cdv : Value) (A : Around) (outer : List Env) (s : Shared) (H : Hp) (E : XK), X = cxOf (L2.CX P w) P w K mg base N x (defScope st) f cdv A outer s H E → Room k X.A → (gd = true → X.A.guards = some []) → Takes X W → PassesOwn (model X.prog X.w) X.A X.env X.xe → fd.code = X.env.code → DSs X W (keptS keep) (defBody st) g) :
    FnG P w K mg base (k + 1) gd f fd ps (spD K (defD N.length keep g)) := by
  have hlen : ∀ vs H Q E, spD K (defD N.length keep g) vs H Q E → vs.length = ps.length := by
    rintro vs H Q E ⟨ds, F, a, r, _, e, _⟩
    rw [defD_eq] at e
    split at e
    · rename_i hl
      rw [r.length, hl, hk]
    · cases e
  refine FnG.of F S hlen fun cdv A outer s H vs Q E hcode room gds hs => ?_
  have hl := hlen _ _ _ _ hs
  refine ⟨_, hb _ (fun cls d _ H => E cls d H) cdv A outer s H E rfl room gds (takes_of rfl rfl rfl rfl) (passes_of rfl) hcode, ?_⟩
  obtain ⟨ds, F0, a, r, tb, e, q⟩ := hs
  have hl2 := r.length
  rw [defD_eq] at e
  rw [if_pos (by omega)] at e
  have s0 : RepS K H (start N vs) (ds.map some ++ List.replicate (N.length - keep.length) none) F0 := by
    unfold L2.start
    rw [show N.length - vs.length = N.length - keep.length by omega]
    exact RepS.start r tb
  have msk : ∀ {ρ' : Rho} {σ' : L2.St} {H' : Hp} {F' : FP}, RepS K H' σ' ρ' F' → Prot (keptS keep) (start N vs) σ' → ∃ F'', RepS K H' (vs.map some) (maskR keep ρ') F'' ∧ ∀ x, F'' x → F' x := fun s' pr =>
    s'.mask (by omega) fun i v h1 h2 => by
      rw [pr.2 i (mem_kept.mpr h1)]
      unfold L2.start
      rw [List.getElem?_append_left (by rw [List.length_map]; exact (List.getElem?_eq_some_iff.mp h2).1), List.getElem?_map, h2]
      rfl
  split at e
  · rename_i d ρ hg
    cases e
    refine ⟨_, F0, _, s0, hg, fun σ' H' F' v Fd s' rv dj fr pr => ?_⟩
    obtain ⟨F'', h1, h2⟩ := msk s' pr
    exact q v H' F'' Fd h1 rv (fun x f z => dj x f (h2 x z)) (fr.less fun x z => z.imp (h2 x) fun z => z)
  · rename_i ρ hg
    cases e
    refine ⟨_, F0, _, s0, hg, fun σ' H' F' P => ?_⟩
    obtain ⟨F'', h1, h2⟩ := msk P.s P.pr
    exact q .non H' F'' (fun _ => False) h1 (.non fun _ z => z) (fun _ z => z.elim) (P.fr.less fun x z => z.elim (h2 x) False.elim)
  · rename_i c ρ hg
    cases e
    refine ⟨_, F0, _, s0, hg, fun σ' H' F' P => ?_⟩
    obtain ⟨F'', h1, h2⟩ := msk P.s P.pr
    exact q H' F'' h1 (P.fr.less h2)
  · cases e
end

/-! ### calls of defs -/
omit [Tbs] in
def putBack (ρ : Rho) : List Res → Rho → Rho
  | .var i :: rs, p :: ps => putBack (ρ.set i p) rs ps
  | _ :: rs, _ :: ps => putBack ρ rs ps
  | _, _ => ρ
omit [Tbs] in
def dCall (φ : List D → Option FAns) (fl : EvL) : Ev := bndL .exc fl fun rs ρ p => (takeRs ρ rs).bind fun z => match φ z.1 with
  | some (.ok d post) => some (.ok (.own d) (putBack z.2 rs post) (p && immL z.1))
  | some (.exc c post) => some (.exc c (putBack z.2 rs post))
  | none => none
section
variable {X : Cx} {W : WX} {k : Nat} {f : Addr} {fd : FuncData} {ps : List Str} {φ : List D → Option FAns} {x : Str} {p pos : Pos} {e : Expr} {es : List Expr} {fl : EvL}
theorem RepS.refill {K : PySem.W.Frag} {H : Hp} {σ : L2.St} {ρ : Rho} {F G : FP} {i : Nat} {v : V} {d : Option D} (s : RepS K H σ ρ F) (hv : σ[i]? = some (some v)) (r : ∀ c, d = some c → Rep K H v c G) (dj : Disj G F) :
    ∃ F', RepS K H σ (ρ.set i d) F' ∧ ∀ x, F' x → F x ∨ G x := by
  obtain ⟨F1, h1, h2⟩ := s.drop i (some v)
  have hi : i < σ.length := (List.getElem?_eq_some_iff.mp hv).1
  have e1 : σ.set i (some v) = σ := by
    apply List.ext_getElem?
    intro j
    by_cases hj : i = j
    · subst hj; rw [List.getElem?_set_self hi, hv]
    · rw [List.getElem?_set_ne hj]
  rw [e1] at h1
  cases d with
  | none => exact ⟨F1, h1, fun x z => .inl (h2 x z)⟩
  | some c =>
    have hl := s.length
    have h3 := h1.fill (i := i) (v := v) (d := c) (G := G) (by rw [List.getElem?_set_self (by omega)]) hv (r c rfl) fun x g z => dj x g (h2 x z)
    rw [List.set_set] at h3
    exact ⟨_, h3, fun x z => z.elim .inr fun z => .inl (h2 x z)⟩
theorem putBack_ok {K : PySem.W.Frag} {H : Hp} {σ : L2.St} : ∀ {rs : List Res} {vs : List V} {post ρ : Rho} {F G Fd : FP} {H0 : Hp}, RepS K H σ ρ F → RepS K H (vs.map some) post G → Disj G F → RepRs K H0 σ rs vs Fd →
    ∃ F', RepS K H σ (putBack ρ rs post) F' ∧ ∀ x, F' x → F x ∨ G x
  | [], _, post, ρ, F, G, Fd, H0, s, sp, dj, rr => ⟨F, by cases post <;> exact s, fun x z => .inl z⟩
  | r :: rs, v :: vs, post, ρ, F, G, Fd, H0, s, sp, dj, .cons h t n e0 => by
    cases post with
    | nil => refine ⟨F, ?_, fun x z => .inl z⟩; cases r <;> exact s
    | cons d post =>
      obtain ⟨G1, G2, hr, sp2, djG, kG⟩ : ∃ G1 G2, (∀ c, d = some c → Rep K H v c G1) ∧ RepS K H (vs.map some) post G2 ∧ Disj G1 G2 ∧ ∀ x, G1 x ∨ G2 x → G x := by
        obtain ⟨sp, tbs⟩ := sp
        cases d with
        | none =>
          cases sp with
          | hole s2 => exact ⟨fun _ => False, G, fun c z => (nomatch z), ⟨s2, tbs⟩, fun _ z => z.elim, fun x z => z.elim False.elim fun z => z⟩
        | some c =>
          generalize hq : (some c : Option D) :: post = q at sp
          generalize hw : List.map some (v :: vs) = ww at sp
          cases sp with
          | nil e => cases hq
          | hole s2 => cases hq
          | cons r2 s2 n2 e2 =>
            rw [List.map_cons] at hw
            cases hw
            cases hq
            exact ⟨_, _, fun c' z => by cases z; exact r2, ⟨s2, tbs⟩, n2, fun x z => (e2 x).mpr z⟩
      cases r with
      | var i =>
        obtain ⟨F1, h1, h2⟩ := s.refill (i := i) h.1 hr fun x g z => dj x (kG x (.inl g)) z
        obtain ⟨F2, h3, h4⟩ := putBack_ok h1 sp2 (fun x g z => (h2 x z).elim (fun z => dj x (kG x (.inr g)) z) fun z => djG x z g) t
        refine ⟨F2, h3, fun x z => ?_⟩
        rcases h4 x z with z | z
        · exact (h2 x z).imp (fun z => z) fun z => kG x (.inl z)
        · exact .inr (kG x (.inr z))
      | own c =>
        obtain ⟨F2, h3, h4⟩ := putBack_ok s sp2 (fun x g z => dj x (kG x (.inr g)) z) t
        exact ⟨F2, h3, fun x z => (h4 x z).imp (fun z => z) fun z => kG x (.inr z)⟩
      | bor c =>
        obtain ⟨F2, h3, h4⟩ := putBack_ok s sp2 (fun x g z => dj x (kG x (.inr g)) z) t
        exact ⟨F2, h3, fun x z => (h4 x z).imp (fun z => z) fun z => kG x (.inr z)⟩
theorem call_core {K : PySem.W.Frag} {σ : L2.St} {H : Hp} {Q : VK} (h : wpE K W (dCall φ fl) σ H Q) : wpL K W fl σ H fun vs H1 => spD K φ vs H1 Q fun c d H' => W c d σ H' := by
  obtain ⟨ρ, F, a, s, e, q⟩ := h
  have qx := q.exc
  refine bndLE s e qx fun rs ρ1 p us H1 F1 Fd e1 P1 => ?_
  cases et : takeRs ρ1 rs with
  | none => rw [et] at e1; cases e1
  | some z =>
    obtain ⟨ds, ρ2⟩ := z
    rw [et] at e1
    simp only [Option.bind_some] at e1
    obtain ⟨F2, Fe, s2, r2, dj2, k1, k2⟩ := takeRs_ok P1.s P1.r P1.dj et
    have fr2 : Fr H F H1 (orF F2 Fe) := P1.fr.less fun x z => z.elim (fun z => .inl (k1 x z)) (k2 x)
    split at e1
    · rename_i d post hφ
      cases e1
      refine ⟨ds, Fe, _, r2, s2.tb, hφ, fun v H' F' Fv sp rv djv fr => ?_⟩
      have s3 : RepS K H' σ ρ2 F2 := fr.repS s2 (fun x f z => dj2 x z f)
      have ap : Disj F2 (orF F' Fv) := fr.apart (dom_ne s2.dom) fun x f z => dj2 x z f
      obtain ⟨F5, h5, h6⟩ := putBack_ok s3 sp (fun x g z => ap x z (.inl g)) P1.r
      refine q v H' F5 Fv ⟨h5, rv, fun x f z => ?_, ?_, fun z => ?_⟩
      · exact (h6 x z).elim (fun z => ap x z (.inr f)) fun z => djv x f z
      · have w1 : Fr H1 (orF F2 Fe) H' (orF (orF F' Fv) F2) := (fr.wide (dom_ne s2.dom)).more fun x z => z.symm
        refine (fr2.trans w1).less fun x z => ?_
        rcases z with z | z
        · exact (h6 x z).elim .inr fun z => .inl (.inl z)
        · exact .inl (.inr z)
      · simp only [Bool.and_eq_true] at z
        exact (P1.pu z.1).trans ⟨fun b o hb hn => fr.out b o hb hn fun w => r2.imm z.2 b w, fr.tb⟩
    · rename_i c post hφ
      cases e1
      refine ⟨ds, Fe, _, r2, s2.tb, hφ, fun H' F' sp fr => ?_⟩
      have s3 : RepS K H' σ ρ2 F2 := fr.repS s2 (fun x f z => dj2 x z f)
      have ap : Disj F2 F' := fr.apart (dom_ne s2.dom) fun x f z => dj2 x z f
      obtain ⟨F5, h5, h6⟩ := putBack_ok s3 sp (fun x g z => ap x z g) P1.r
      refine qx c _ rfl H' F5 ⟨h5, ?_⟩
      have w1 : Fr H1 (orF F2 Fe) H' (orF F' F2) := (fr.wide (dom_ne s2.dom)).more fun x z => z.symm
      exact (fr2.trans w1).less fun x z => (h6 x z).symm
    · cases e1
end
end PD
namespace PD
open PySem PySem.Spec L2
variable [Tbs]
section
variable {X : Cx} {W : WX} {k : Nat} {f : Addr} {fd : FuncData} {ps : List Str} {φ : List D → Option FAns} {x : Str} {p pos : Pos} {e : Expr} {es : List Expr} {fl : EvL}
/-- f(e, ..) -/
theorem de_call {gd : Bool} (F : FnG X.prog X.w X.K X.mg X.base k gd f fd ps (spD X.K φ)) (hr : Room k X.A) (hgd : gd = true → X.A.guards = some []) (tk : Takes X W) (hg : Gl X x) (hm : X.mg x = some (.ref f)) (hk : PySem.W.keepIn X.K (.ref f) = true) (hb : Binds X.K fd ps [])
    (ha : DL X W (e :: es) fl) (hdb : (x == ("__debug__" : Str)) = false := by decide) (he : starEach (e :: es) X.env = (false, eval e X.env) :: starEach es X.env := by rfl) (hpl : (backTo pos (starEach es X.env)).any (·.1) = false := by rfl) :
    DE X W (.Call (.Name x p) (e :: es) [] pos) (dCall φ fl) := by
  refine ⟨fun pins s σ H Q I h => ?_⟩
  have h2 := call_core h
  refine wpAny_Call_Name_kw (ld_glob I hg hm ?_ hdb)
  refine PySem.W.callWith_K (h₀ := X.base) I.ok.mod.kin hk (thn (ha.run pos pins s σ H _ I h2) ?_) he hpl
  rintro us s1 ⟨vs, H1, I1, rv, q⟩
  refine ⟨I1.kIn, ?_⟩
  have hl : us.length = ps.length := by rw [← rv.length]; exact F.len _ _ _ _ q
  have bd := hb s1 us I1.kIn (by rw [List.append_nil]; exact hl)
  rw [List.append_nil] at bd
  refine wpAny_call (codeAny_mono (F.run X.A X.stack s1 H1 ⟨us, []⟩ us vs Q _ hr hgd I1.env0 bd rv q) ?_)
  intro r s2 hq
  cases r with
  | error er => exact passAt tk σ pins H1 s1 er s2 I1 hq
  | ok fl =>
    cases fl with
    | ret u => exact I1.after hq
    | next => exact hq.elim
    | brk => exact hq.elim
    | cont => exact hq.elim
end
end PD
end
section
set_option Elab.async false
set_option linter.all false
set_option maxRecDepth 100000
set_option maxHeartbeats 4000000
/-! (x,) * k for any small k. -/
namespace PD
open PySem PySem.Spec PyProof.Rows L2
variable [Tbs]
theorem tupMul_same (l : Addr) (items : Array Value) (n : Nat) (dd : Option Addr) (sl : Array (Option Value)) (x : Int) (u : Tok) (h0 : (decide (x < -(2 ^ 63)) || decide (x ≥ 2 ^ 63)) = false) (h1 : (items.isEmpty || x == 1) = true) :
    Meets (Builtin.«tuple.__mul__» ⟨[.ref l, .int x u], []⟩) (fun _ R s => s.heap.get? l = some { cls := .type "tuple", dict := dd, data := .seq items n, slots := sl } ∧ R (.ok (.ret (Value.ref l))) s) :=
  .of_wp fun prog w A R s h => by
    obtain ⟨hp, g, d, tk, os⟩ := s
    obtain ⟨hl, h⟩ := h
    have f1 := AutoSeq1.idx_int
    wp_walk using wpAny_loadPart' hl
    repeat (first
      | (refine wpAny_ite_false (decide_eq_false (by rw [h0]; exact Bool.false_ne_true)) ?_; wp_walk using wpAny_loadPart' hl)
      | (refine wpAny_ite_true (decide_eq_true (by rw [h1])) ?_; wp_walk using wpAny_loadPart' hl))
    exact ⟨_, rfl, h⟩
theorem tupMul_none (l : Addr) (items : Array Value) (n : Nat) (dd : Option Addr) (sl : Array (Option Value)) (x : Int) (u : Tok) (h0 : (decide (x < -(2 ^ 63)) || decide (x ≥ 2 ^ 63)) = false) (h1 : (items.isEmpty || x == 1) = false) (h2 : (decide (x ≤ 0) || items.isEmpty) = true) :
    Meets (Builtin.«tuple.__mul__» ⟨[.ref l, .int x u], []⟩) (fun _ R s => s.heap.get? l = some { cls := .type "tuple", dict := dd, data := .seq items n, slots := sl } ∧
      R (.ok (.ret (Value.ref s.heap.objs.size))) { s with heap := s.heap.push { cls := Value.type "tuple", data := Data.seq #[] }, toks := s.toks }) :=
  .of_wp fun prog w A R s h => by
    obtain ⟨hp, g, d, tk, os⟩ := s
    obtain ⟨hl, h⟩ := h
    have f1 := AutoSeq1.idx_int
    wp_walk using wpAny_loadPart' hl
    repeat (first
      | (refine wpAny_ite_false (decide_eq_false (by rw [h0]; exact Bool.false_ne_true)) ?_; wp_walk using wpAny_loadPart' hl)
      | (refine wpAny_ite_false (decide_eq_false (by rw [h1]; exact Bool.false_ne_true)) ?_; wp_walk using wpAny_loadPart' hl)
      | (refine wpAny_ite_true (decide_eq_true (by rw [h2])) ?_; wp_walk using wpAny_loadPart' hl))
    exact ⟨_, rfl, h⟩
omit [Tbs] in
def rRepAny (K : PySem.W.Frag) : R2 := fun x y H Q => ∃ l k xs, x = .ref l ∧ y = .int k ∧ SqT K H l xs ∧ xs ≠ [] ∧ -1000 ≤ k ∧ k ≤ 1000 ∧ xs.length ≤ 1000 ∧ (k = 1 → Q (.ref l) H) ∧ (k ≠ 1 → ∀ p, H p = none → Q (.ref p) (upd H p (.tup (List.replicate k.toNat xs).flatten)))
section
variable {X : Cx}
theorem op_repAny : OpR X (binaryOp .Mult) (rRepAny X.K) := by
  intro pins s σ H x y v u Q I rx ry h
  obtain ⟨l, k, xs, rfl, rfl, hT, hne, h1, h2, hz, q1, q2⟩ := h
  by_cases hk : 2 ≤ k
  · exact op_repT pins s σ H _ _ v u Q I rx ry ⟨l, k, xs, rfl, rfl, hT, hne, hk, h2, hz, q2 (by omega)⟩
  · cases rx
    obtain ⟨t, rfl⟩ := ry
    obtain ⟨its, r, ⟨⟨cls, dd, data, sl⟩, ho, hc, n, hd⟩, hs⟩ := I.tuple hT
    simp only at hc hd
    subst hc hd
    have hn : its.toArray.isEmpty = false := by
      cases its with
      | nil => exact absurd (List.eq_nil_of_length_eq_zero r.length) hne
      | cons a b => rfl
    have z0 : (decide (k < -(2 ^ 63)) || decide (k ≥ 2 ^ 63)) = false := by
      rw [decide_eq_false (by omega), decide_eq_false (by omega)] <;> rfl
    by_cases h3 : k = 1
    · have z1 : (its.toArray.isEmpty || k == 1) = true := by rw [hn, h3]; rfl
      refine wpAny_binaryOp_repeat_ref (T := "tuple") (U := "int") (by decide) ⟨_, ho, rfl⟩ (fun s' => typeIs_int s' k t) noFill_tuple_mul F.fills_int_mul F.slot_int_rmul repeat_tuple F.slot_int_index.lookup
        (call_meets F.slot_int_rmul (typeIs_int s k t) F.entry_int_rmul (F.args_int_rmul_2 _ _) (int_rmul_tuple k t l its.toArray n dd sl)
          ⟨ho, rfl, ⟨_, ho, rfl⟩, call_meets F.slot_tuple_mul ⟨_, ho, rfl⟩ F.entry_tuple_mul (F.args_tuple_mul_2 _ _) (tupMul_same l its.toArray n dd sl k t z0 z1) ⟨ho, ?_⟩⟩)
      exact ⟨.ref l, H, I, rfl, q1 h3⟩
    · have z1 : (its.toArray.isEmpty || k == 1) = false := by rw [hn, Bool.false_or]; exact beq_eq_false_iff_ne.mpr h3
      have z2 : (decide (k ≤ 0) || its.toArray.isEmpty) = true := by rw [decide_eq_true (by omega), Bool.true_or]
      refine wpAny_binaryOp_repeat_ref (T := "tuple") (U := "int") (by decide) ⟨_, ho, rfl⟩ (fun s' => typeIs_int s' k t) noFill_tuple_mul F.fills_int_mul F.slot_int_rmul repeat_tuple F.slot_int_index.lookup
        (call_meets F.slot_int_rmul (typeIs_int s k t) F.entry_int_rmul (F.args_int_rmul_2 _ _) (int_rmul_tuple k t l its.toArray n dd sl)
          ⟨ho, rfl, ⟨_, ho, rfl⟩, call_meets F.slot_tuple_mul ⟨_, ho, rfl⟩ F.entry_tuple_mul (F.args_tuple_mul_2 _ _) (tupMul_none l its.toArray n dd sl k t z0 z1 z2) ⟨ho, ?_⟩⟩)
      have e0 : k.toNat = 0 := by omega
      have q3 := q2 h3 s.heap.objs.size (I.hok.fresh (Nat.le_refl _))
      rw [e0] at q3
      refine ⟨.ref s.heap.objs.size, _, I.laid (t' := s.toks) (o := .tup (List.replicate 0 xs).flatten) (fun b ob z => Heap.get?_push_of_some _ z) (Nat.le_refl _) ?_, rfl, q3⟩
      exact ⟨Nat.zero_le _, [], .nil, IsTup.new _ _⟩
end
omit [Tbs] in
def gRepT : D → D → Option D := fun a b => match a, b with
  | .tup xs, .int k => if immL xs && decide (-1000 ≤ k ∧ k ≤ 1000) && decide (0 < xs.length ∧ xs.length ≤ 100) then some (.tup (List.replicate k.toNat xs).flatten) else none
  | _, _ => none
theorem ops_repT {K : PySem.W.Frag} : OpS K (rRepAny K) gRepT := by
  intro v w H a b G1 G2 d Q r1 r2 e q
  unfold gRepT at e
  split at e
  · rename_i xs k
    split at e
    · rename_i h
      simp at h
      cases e
      obtain ⟨a, vs, rfl, h1, h2, h3⟩ := r1.tup_inv
      have l1 := h3.length
      obtain rfl := r2.int_inv
      have hne : vs ≠ [] := fun z => by rw [z] at l1; simp at l1; omega
      refine ⟨a, k, vs, rfl, rfl, h1, hne, by omega, by omega, by omega, fun hk => ?_, fun _ p hp => ?_⟩
      · subst hk
        have e1 : (List.replicate (1 : Int).toNat xs).flatten = xs := by show (List.replicate 1 xs).flatten = xs; simp
        rw [e1] at q
        exact q _ H _ (Sm.refl H) (fun _ z => z.elim) (r1.thin (by simpa [D.imm] using h.1.1))
      · have rr := (h3.thin h.1.1).repl k.toNat
        have hb : k.toNat * vs.length ≤ 1000 * 100 := Nat.mul_le_mul (by omega) (by omega)
        exact q _ _ _ (Sm.new hp) (fun x z => z.elim) (rep_newT hp (by rw [PyProof.Rows.lm_len_rep_flat]; exact Nat.le_trans hb (by decide)) rr)
    · cases e
  · cases e
end PD
end
section
set_option Elab.async false
set_option linter.all false
set_option maxRecDepth 100000
set_option maxHeartbeats 4000000
/-! zip(.., strict=True) of two tuples, at the library's level. -/
namespace PZ
open PySem
open PySem.Sem (wp)
section
variable {prog : Program} {w : World} {A : Around} {E : Value → Shared → Prop} {s : Shared}
/-- a strict zip of two iterators -/
abbrev StZip (h : Heap) (z TI TO : Addr) (f0 : Value) : Prop :=
  h.get? z = some { cls := .type "zip", dict := none, data := .fields #[f0, .bool false, .bool true, .ref TI, .ref TO], slots := #[] }
theorem drawn {it l : Addr} {i : Nat} {items : Array Value} {x : Value} {Q : Option Value → Shared → Prop} (a : s.heap.IsTupleIter it l i) (b : s.heap.IsTuple l items) (c : items[i]? = some x)
    (q : ∀ h', h'.IsTupleIter it l (i + 1) → Heap.SameBut it s.heap h' → Q (some x) { s with heap := h' }) : wpAny (model prog w) A (Builtin.SmallTypes.nextOrEnd (.ref it)) Q E s := by
  unfold Builtin.SmallTypes.nextOrEnd
  exact wpAny_bind (wpAny_attempt (RZ.nextOf_tuple_item a b c fun h' k1 k2 => wpAny_pure (q h' k1 k2)))
theorem undrawn {it l : Addr} {i : Nat} {items : Array Value} {Q : Option Value → Shared → Prop} (hh : A.handled = none) (a : s.heap.IsTupleIter it l i) (b : s.heap.IsTuple l items) (c : items[i]? = none)
    (q : ∀ h', Heap.ExtBut it s.heap h' → Q none { s with heap := h' }) : wpAny (model prog w) A (Builtin.SmallTypes.nextOrEnd (.ref it)) Q E s := by
  unfold Builtin.SmallTypes.nextOrEnd
  refine wpAny_bind (wpAny_attempt (RZ.nextOf_tuple_end hh a b c fun h' e k1 ⟨o, k2, k3⟩ => ?_))
  exact wpAny_bind (wpAny_isInstance (T := "StopIteration") (b := true) ⟨o, k2, k3⟩ isSubtype_stop (wpAny_pure (q h' k1)))

theorem step_item {z TI TO i1 i2 l1 l2 : Addr} {k1 k2 : Nat} {xs ys : Array Value} {x y a b : Value} {Q : Value → Shared → Prop} (D : ZipApart z TI TO i1 i2 l1 l2)
    (hz : StZip s.heap z TI TO .none) (hTI : IsPair s.heap TI (.ref i1) (.ref i2)) (hTO : IsPair s.heap TO a b)
    (h1 : s.heap.IsTupleIter i1 l1 k1) (h2 : s.heap.IsTupleIter i2 l2 k2) (hl1 : s.heap.IsTuple l1 xs) (hl2 : s.heap.IsTuple l2 ys) (hx : xs[k1]? = some x) (hy : ys[k2]? = some y)
    (hQ : ∀ h', StZip h' z TI TO (rawInt s.heap.objs.size) → IsPair h' TO x y → h'.IsTupleIter i1 l1 (k1 + 1) → h'.IsTupleIter i2 l2 (k2 + 1) → IsPair h' s.heap.objs.size x y → h'.objs.size = s.heap.objs.size + 1 →
      (∀ c o, c ≠ z → c ≠ TO → c ≠ i1 → c ≠ i2 → s.heap.get? c = some o → h'.get? c = some o) → Q (.ref s.heap.objs.size) { s with heap := h' }) :
    wpAny (model prog w) A (Builtin.«zip.__next__» ⟨[.ref z], []⟩) (fun fin s' => ∃ v, fin = .done (.ret v) ∧ Q v s') E s := by
  show wpAny _ _ (field (.ref z) 2 >>= _) _ _ _
  refine wpAny_bind (wpAny_field hz rfl (x := .bool true) rfl ?_)
  show wpAny _ _ (field (.ref z) 3 >>= _) _ _ _
  refine wpAny_bind (wpAny_field hz rfl (x := .ref TI) rfl ?_)
  refine wpAny_bind (wpAny_seqItems hTI rfl ?_)
  show wpAny _ _ (Builtin.SmallTypes.ownedTupleIsFree (.ref z) >>= _) _ _ _
  refine wpAny_bind ?_
  unfold Builtin.SmallTypes.ownedTupleIsFree
  refine wpAny_bind (wpAny_field hz rfl (x := .none) rfl (wpAny_pure ?_))
  simp only [if_true]
  refine wpAny_bind (wpAny_rule ?_)
  refine wpAny_bind (wpAny_field hz rfl (x := .ref TO) rfl ?_)
  refine wpAny_bind (wpAny_setField_rec hz (by simp) fun g1 z1 s1 => ?_)
  replace z1 : StZip g1 z TI TO .ellipsis := z1
  refine wpAny_bind ?_
  simp only [List.zipIdx_cons, List.zipIdx_nil, List.forIn_cons, List.forIn_nil]
  refine wpAny_bind (wpAny_bind (wpAny_onRaise ?_))
  show wpAny _ _ (Builtin.SmallTypes.nextOrEnd (.ref i1)) _ _ _
  refine drawn (h1.extBut s1.extBut D.i1z) (hl1.extBut s1.extBut D.l1z) hx fun g2 t1 s2 => ?_
  have o2 : IsPair g2 TO a b := s2.extBut _ _ D.TOi1 (s1.extBut _ _ D.TOz hTO)
  refine wpAny_bind (wpAny_seqItems o2 rfl ?_)
  refine wpAny_bind (wpAny_updateSeq_pair o2 fun g3 o3 s3 => ?_)
  replace o3 : IsPair g3 TO x b := o3
  refine wpAny_bind (wpAny_letGo (wpAny_pure ?_))
  refine wpAny_bind (wpAny_bind (wpAny_onRaise ?_))
  show wpAny _ _ (Builtin.SmallTypes.nextOrEnd (.ref i2)) _ _ _
  refine drawn (((h2.extBut s1.extBut D.i2z).extBut s2.extBut D.i12.symm).extBut s3.extBut D.TOi2.symm)
    (((hl2.extBut s1.extBut D.l2z).extBut s2.extBut D.l2i1).extBut s3.extBut D.l2TO) hy fun g4 t2 s4 => ?_
  have o4 : IsPair g4 TO x b := s4.extBut _ _ D.TOi2 o3
  refine wpAny_bind (wpAny_seqItems o4 rfl ?_)
  refine wpAny_bind (wpAny_updateSeq_pair o4 fun g5 o5 s5 => ?_)
  replace o5 : IsPair g5 TO x y := o5
  refine wpAny_bind (wpAny_letGo (wpAny_pure (wpAny_pure ?_)))
  refine wpAny_bind (wpAny_seqItems o5 rfl ?_)
  refine wpAny_bind (wpAny_newTuple ?_)
  have sz : g5.objs.size = s.heap.objs.size := by rw [s5.1, s4.1, s3.1, s2.1, s1.1]
  have z5 : StZip g5 z TI TO .ellipsis := s5.extBut _ _ D.TOz.symm (s4.extBut _ _ D.i2z.symm (s3.extBut _ _ D.TOz.symm (s2.extBut _ _ D.i1z.symm z1)))
  have k5 : ∀ c o, c ≠ z → c ≠ TO → c ≠ i1 → c ≠ i2 → s.heap.get? c = some o → g5.get? c = some o := fun c o c1 c2 c3 c4 e =>
    s5.extBut _ _ c2 (s4.extBut _ _ c4 (s3.extBut _ _ c2 (s2.extBut _ _ c3 (s1.extBut _ _ c1 e))))
  have t5 : g5.IsTupleIter i1 l1 (k1 + 1) := ((t1.extBut s3.extBut D.TOi1.symm).extBut s4.extBut D.i12).extBut s5.extBut D.TOi1.symm
  have t6 : g5.IsTupleIter i2 l2 (k2 + 1) := t2.extBut s5.extBut D.TOi2.symm
  have zlt : z < g5.objs.size := Heap.lt_size z5
  show wpAny _ _ (Builtin.SmallTypes.ownedTupleHandOut (.ref z) (.ref g5.objs.size) >>= _) _ _ _
  refine wpAny_bind ?_
  unfold Builtin.SmallTypes.ownedTupleHandOut
  have z6 : StZip (g5.push { cls := .type "tuple", data := .seq #[x, y] }) z TI TO .ellipsis := Heap.get?_push_of_some _ z5
  refine wpAny_bind (wpAny_setField_rec z6 (by simp) fun g7 z7 s7 => ?_)
  replace z7 : StZip g7 z TI TO (rawInt g5.objs.size) := z7
  refine wpAny_setField_rec z7 (by simp) fun g8 z8 s8 => ?_
  replace z8 : StZip g8 z TI TO (rawInt g5.objs.size) := z8
  have up : ∀ c o, c ≠ z → g5.get? c = some o → g8.get? c = some o := fun c o c1 e => s8.extBut _ _ c1 (s7.extBut _ _ c1 (Heap.get?_push_of_some _ e))
  have T8 : IsPair g8 g5.objs.size x y := s8.extBut _ _ (Nat.ne_of_gt zlt) (s7.extBut _ _ (Nat.ne_of_gt zlt) (Heap.get?_push_size _ rfl))
  have sz8 : g8.objs.size = g5.objs.size + 1 := by rw [s8.1, s7.1, Heap.size_push]
  rw [sz] at z8 T8 sz8
  refine wpAny_pure ⟨_, rfl, ?_⟩
  show Q (.ref g5.objs.size) _
  rw [sz]
  exact hQ g8 z8 (up _ _ D.TOz o5) (t5.at fun o e => up _ o D.i1z e) (t6.at fun o e => up _ o D.i2z e) T8 sz8 fun c o c1 c2 c3 c4 e => up c o c1 (k5 c o c1 c2 c3 c4 e)

theorem step_end {z TI TO i1 i2 l1 l2 : Addr} {k1 k2 : Nat} {xs ys : Array Value} {a b : Value} {Q : Fin → Shared → Prop} (hh : A.handled = none) (D : ZipApart z TI TO i1 i2 l1 l2)
    (hz : StZip s.heap z TI TO .none) (hTI : IsPair s.heap TI (.ref i1) (.ref i2)) (hTO : IsPair s.heap TO a b)
    (h1 : s.heap.IsTupleIter i1 l1 k1) (h2 : s.heap.IsTupleIter i2 l2 k2) (hl1 : s.heap.IsTuple l1 xs) (hl2 : s.heap.IsTuple l2 ys) (hx : xs[k1]? = none) (hy : ys[k2]? = none)
    (hE : ∀ h' e, (∀ c o, c ≠ z → c ≠ TO → c ≠ i1 → c ≠ i2 → s.heap.get? c = some o → h'.get? c = some o) → (∃ o, h'.get? e = some o ∧ o.cls = .type "StopIteration") → E (.ref e) { s with heap := h' }) :
    wpAny (model prog w) A (Builtin.«zip.__next__» ⟨[.ref z], []⟩) Q E s := by
  show wpAny _ _ (field (.ref z) 2 >>= _) _ _ _
  refine wpAny_bind (wpAny_field hz rfl (x := .bool true) rfl ?_)
  show wpAny _ _ (field (.ref z) 3 >>= _) _ _ _
  refine wpAny_bind (wpAny_field hz rfl (x := .ref TI) rfl ?_)
  refine wpAny_bind (wpAny_seqItems hTI rfl ?_)
  show wpAny _ _ (Builtin.SmallTypes.ownedTupleIsFree (.ref z) >>= _) _ _ _
  refine wpAny_bind ?_
  unfold Builtin.SmallTypes.ownedTupleIsFree
  refine wpAny_bind (wpAny_field hz rfl (x := .none) rfl (wpAny_pure ?_))
  simp only [if_true]
  refine wpAny_bind (wpAny_rule ?_)
  refine wpAny_bind (wpAny_field hz rfl (x := .ref TO) rfl ?_)
  refine wpAny_bind (wpAny_setField_rec hz (by simp) fun g1 z1 s1 => ?_)
  replace z1 : StZip g1 z TI TO .ellipsis := z1
  refine wpAny_bind ?_
  simp only [List.zipIdx_cons, List.zipIdx_nil, List.forIn_cons, List.forIn_nil]
  refine wpAny_bind (wpAny_bind (wpAny_onRaise ?_))
  show wpAny _ _ (Builtin.SmallTypes.nextOrEnd (.ref i1)) _ _ _
  refine undrawn hh (h1.extBut s1.extBut D.i1z) (hl1.extBut s1.extBut D.l1z) hx fun g2 s2 => ?_
  have z2 : StZip g2 z TI TO .ellipsis := s2 _ _ D.i1z.symm z1
  refine wpAny_bind (wpAny_setField_rec z2 (by simp) fun g3 z3 s3 => ?_)
  refine wpAny_bind ?_
  refine wpAny_bind ?_
  simp only [List.drop_succ_cons, List.drop_zero, List.zipIdx_cons, List.zipIdx_nil, List.forIn_cons, List.forIn_nil]
  refine wpAny_bind (wpAny_bind (undrawn (l := l2) hh (((h2.extBut s1.extBut D.i2z).extBut s2 D.i12.symm).extBut s3.extBut D.i2z) (((hl2.extBut s1.extBut D.l2z).extBut s2 D.l2i1).extBut s3.extBut D.l2z) hy fun g4 s4 => ?_))
  simp only [Option.isSome_none, Bool.false_eq_true, if_false]
  refine wpAny_pure (wpAny_pure ?_)
  refine wpAny_bind (wpAny_rule ?_)
  show wpAny _ _ (newExc (.type "StopIteration") [] >>= _) _ _ _
  refine wpAny_bind ?_
  simp only [newExc, newTuple]
  refine wpAny_bind (wpAny_newObj_type ?_ (by size_fits))
  refine wpAny_bind (m := firstArgMember _ _) (wpAny_of_eq (a := Value.none) (by first | rfl | (simp only [firstArgMember]; rfl)) ?_)
  refine wpAny_newObj_type ?_ (by size_fits)
  simp only [raiseNew]
  refine wpAny_bind (wpAny_handled ?_)
  first | rw [show A.in1.handled = none from hh] | rw [hh]
  refine wpAny_bind (wpAny_pure (wpAny_throw ?_))
  refine hE _ _ (fun c o c1 c2 c3 c4 q => ?_) ⟨_, Heap.get?_push_size _ rfl, rfl⟩
  exact Heap.get?_push_of_some _ (Heap.get?_push_of_some _ (s4 _ _ c4 (s3.extBut _ _ c1 (s2 _ _ c3 (s1.extBut _ _ c1 q)))))
theorem next_item {z TI TO i1 i2 l1 l2 : Addr} {k1 k2 : Nat} {xs ys : Array Value} {x y a b : Value} {Q : Option Value → Shared → Prop} (D : ZipApart z TI TO i1 i2 l1 l2)
    (hz : StZip s.heap z TI TO .none) (hTI : IsPair s.heap TI (.ref i1) (.ref i2)) (hTO : IsPair s.heap TO a b)
    (h1 : s.heap.IsTupleIter i1 l1 k1) (h2 : s.heap.IsTupleIter i2 l2 k2) (hl1 : s.heap.IsTuple l1 xs) (hl2 : s.heap.IsTuple l2 ys) (hx : xs[k1]? = some x) (hy : ys[k2]? = some y)
    (hQ : ∀ h', StZip h' z TI TO (rawInt s.heap.objs.size) → IsPair h' TO x y → h'.IsTupleIter i1 l1 (k1 + 1) → h'.IsTupleIter i2 l2 (k2 + 1) → IsPair h' s.heap.objs.size x y → h'.objs.size = s.heap.objs.size + 1 →
      (∀ c o, c ≠ z → c ≠ TO → c ≠ i1 → c ≠ i2 → s.heap.get? c = some o → h'.get? c = some o) → Q (some (.ref s.heap.objs.size)) { s with heap := h' }) :
    wpAny (model prog w) A (pyNext (.ref z)) Q E s := by
  have ty : s.TypeIs (.ref z) "zip" := ⟨_, hz, rfl⟩
  unfold pyNext
  exact wpAny_bind (wpAny_attempt (wpAny_callSpecial?_slot (name := Str.ofString "__next__") ty F.slot_zip_next (wpAny_call_entry F.slot_zip_next ty F.entry_zip_next
    (step_item D hz hTI hTO h1 h2 hl1 hl2 hx hy fun h' a1 a2 a3 a4 a5 a6 a7 => wpAny_pure (hQ h' a1 a2 a3 a4 a5 a6 a7)) (F.args_zip_next_1 _))))
theorem next_end {z TI TO i1 i2 l1 l2 : Addr} {k1 k2 : Nat} {xs ys : Array Value} {a b : Value} {Q : Option Value → Shared → Prop} (hh : A.handled = none) (D : ZipApart z TI TO i1 i2 l1 l2)
    (hz : StZip s.heap z TI TO .none) (hTI : IsPair s.heap TI (.ref i1) (.ref i2)) (hTO : IsPair s.heap TO a b)
    (h1 : s.heap.IsTupleIter i1 l1 k1) (h2 : s.heap.IsTupleIter i2 l2 k2) (hl1 : s.heap.IsTuple l1 xs) (hl2 : s.heap.IsTuple l2 ys) (hx : xs[k1]? = none) (hy : ys[k2]? = none)
    (hQ : ∀ h', (∀ c o, c ≠ z → c ≠ TO → c ≠ i1 → c ≠ i2 → s.heap.get? c = some o → h'.get? c = some o) → Q none { s with heap := h' }) : wpAny (model prog w) A (pyNext (.ref z)) Q E s := by
  have ty : s.TypeIs (.ref z) "zip" := ⟨_, hz, rfl⟩
  unfold pyNext
  refine wpAny_bind (wpAny_attempt (wpAny_callSpecial?_slot (name := Str.ofString "__next__") ty F.slot_zip_next (wpAny_call_entry F.slot_zip_next ty F.entry_zip_next
    (step_end hh D hz hTI hTO h1 h2 hl1 hl2 hx hy fun h' e hk he => ?_) (F.args_zip_next_1 _))))
  obtain ⟨o, ho, hc⟩ := he
  exact wpAny_bind (wpAny_isInstance (T := "StopIteration") (b := true) ⟨o, ho, hc⟩ isSubtype_stop (wpAny_pure (hQ _ hk)))
end
theorem tcheck (a b : Value) : checkTypeCall "zip" ⟨[a, b], [(Str.ofString "strict", .bool true)]⟩ = pure () := by kernel_rfl
theorem ncheck (a b : Value) : checkBuiltinCall "zip.__new__" ⟨[.type "zip", a, b], [(Str.ofString "strict", .bool true)]⟩ = pure () := by kernel_rfl
theorem icheck (o a b : Value) : argsOk "object.__init__" ⟨[o, a, b], [(Str.ofString "strict", .bool true)]⟩ := by unfold argsOk; kernel_rfl
abbrev st5 (h : Heap) (l1 l2 : Addr) : Heap := (RZ.zipTH4 h l1 l2).push { cls := .type "zip", data := .fields #[.none, .bool false, .bool true, .ref (RZ.zipTH2 h l1 l2).objs.size, .ref (RZ.zipTH3 h l1 l2).objs.size] }
theorem made (l1 l2 : Addr) (xs ys : Array Value) :
    Meets (Builtin.«zip.__new__» ⟨[.type "zip", .ref l1, .ref l2], [(Str.ofString "strict", .bool true)]⟩) (fun _ R s => s.heap.IsTuple l1 xs ∧ s.heap.IsTuple l2 ys ∧
      R (.ok (.ret (.ref (RZ.zipTH4 s.heap l1 l2).objs.size))) { s with heap := st5 s.heap l1 l2 }) :=
  .of_wp fun prog w A R s h => by
    obtain ⟨hp, g, d, tk, os⟩ := s; obtain ⟨hl1, hl2, h⟩ := h
    have hsub := sub_zip
    have hL1 : Heap.IsTuple (Shared.heap ⟨hp, g, d, tk, os⟩) l1 xs := hl1
    have hL2 : Heap.IsTuple (Shared.heap ⟨hp.push { cls := .type "tuple_iterator", data := .fields #[.ref l1, .int 0 0] }, g, d, tk, os⟩) l2 ys := Heap.IsTuple.push hl2 _
    have e2 : (Str.ofString "strict" != ("strict" : Str)) = false := by decide +kernel
    wp_walk using wpAny_pyIter_tuple hL1, wpAny_pyIter_tuple hL2
    exact ⟨_, rfl, h⟩
section
variable {prog : Program} {w : World} {A : Around} {E : Value → Shared → Prop} {s : Shared}
theorem zip_made {l1 l2 : Addr} {xs ys : Array Value} {Q : Value → Shared → Prop} (hl1 : s.heap.IsTuple l1 xs) (hl2 : s.heap.IsTuple l2 ys)
    (h : ∀ h', StZip h' (s.heap.objs.size + 4) (s.heap.objs.size + 2) (s.heap.objs.size + 3) .none → IsPair h' (s.heap.objs.size + 2) (.ref s.heap.objs.size) (.ref (s.heap.objs.size + 1)) →
      IsPair h' (s.heap.objs.size + 3) .none .none → h'.IsTupleIter s.heap.objs.size l1 0 → h'.IsTupleIter (s.heap.objs.size + 1) l2 0 → h'.objs.size = s.heap.objs.size + 5 →
      (∀ c o, s.heap.get? c = some o → h'.get? c = some o) → Q (.ref (s.heap.objs.size + 4)) { s with heap := h' }) :
    wpAny (model prog w) A (call (.type "zip") [.ref l1, .ref l2] [(Str.ofString "strict", .bool true)]) Q E s := by
  refine callType_newKw F.called_zip (by decide) (tcheck _ _) (ncheck _ _) (fun obj => icheck obj _ _) F.entry_zip_new (made l1 l2 xs ys) ⟨hl1, hl2, ?_⟩
  have n1 : (RZ.zipTH1 s.heap l1).objs.size = s.heap.objs.size + 1 := Heap.size_push ..
  have n2 : (RZ.zipTH2 s.heap l1 l2).objs.size = s.heap.objs.size + 2 := by rw [Heap.size_push, n1]
  have n3 : (RZ.zipTH3 s.heap l1 l2).objs.size = s.heap.objs.size + 3 := by rw [Heap.size_push, n2]
  have n4 : (RZ.zipTH4 s.heap l1 l2).objs.size = s.heap.objs.size + 4 := by rw [Heap.size_push, n3]
  have n5 : (st5 s.heap l1 l2).objs.size = s.heap.objs.size + 5 := by rw [Heap.size_push, n4]
  have c5 : (st5 s.heap l1 l2).get? (RZ.zipTH4 s.heap l1 l2).objs.size = some _ := Heap.get?_push_size _ rfl
  have c4 : (st5 s.heap l1 l2).get? (RZ.zipTH3 s.heap l1 l2).objs.size = some _ := Heap.get?_push_of_some _ (Heap.get?_push_size _ rfl)
  have c3 : (st5 s.heap l1 l2).get? (RZ.zipTH2 s.heap l1 l2).objs.size = some _ := Heap.get?_push_of_some _ (Heap.get?_push_of_some _ (Heap.get?_push_size _ rfl))
  have c2 : (st5 s.heap l1 l2).get? (RZ.zipTH1 s.heap l1).objs.size = some _ := Heap.get?_push_of_some _ (Heap.get?_push_of_some _ (Heap.get?_push_of_some _ (Heap.get?_push_size _ rfl)))
  have c1 : (st5 s.heap l1 l2).get? s.heap.objs.size = some _ := Heap.get?_push_of_some _ (Heap.get?_push_of_some _ (Heap.get?_push_of_some _ (Heap.get?_push_of_some _ (Heap.get?_push_size _ rfl))))
  show _ ∧ _
  rw [n2, n3, n4] at c5
  rw [n1, n2] at c3
  rw [n3] at c4
  rw [n1] at c2
  rw [n4]
  exact ⟨⟨_, c5, rfl⟩, h _ c5 c3 c4 ⟨_, c1, rfl, rfl⟩ ⟨_, c2, rfl, rfl⟩ n5 fun c o x =>
    Heap.get?_push_of_some _ (Heap.get?_push_of_some _ (Heap.get?_push_of_some _ (Heap.get?_push_of_some _ (Heap.get?_push_of_some _ x))))⟩
end
end PZ
end
section
set_option Elab.async false
set_option linter.all false
set_option maxRecDepth 100000
set_option maxHeartbeats 4000000
/-! zip(.., strict=True) of two tuples, walked. -/
namespace PZ
open PySem PySem.Spec L2
section
variable {M : Model} {A : Around} {E : Value → Shared → Prop} {s : Shared}
theorem withKw {pos : Pos} {T : String} {args : List (Bool × Sem Value)} {kws : List (Option Str × Sem Value)} {Q : Value → Shared → Prop} (np : args.any (·.1) = false) (nk : kws.any (·.1.isNone) = false)
    (h : wpAny M A (evalArgs (.type T) true args kws) (fun a s1 => wpAny M A (call (.type T) ([] ++ a.pos) a.kw) Q E s1) E s) : wpAny M A (callWith pos (.type T) [] args kws) Q E s := by
  unfold callWith
  refine wpAny_bind (wpAny_holding (wpAny_mono h (fun a s1 h1 => wpAny_bind (wpAny_standAt ?_)) fun _ _ x => x))
  simp only [np, nk, Bool.or_false]
  refine wpAny_bind (wpAny_pure ?_)
  exact wpAny_bind (wpAny_mono h1 (fun r s2 hr => wpAny_bind (wpAny_holding (wpAny_point (wpAny_pure hr)))) fun _ _ x => x)
end
section
variable {prog : Program} {w : World} {A : Around} {E : Value → Shared → Prop} {s : Shared}
theorem goes {elts : List Expr} {x1} {pos : Pos} {z TI TO T : Addr} {Q : Unit → Shared → Prop} (hz : StZip s.heap z TI TO (rawInt T))
    (q : ∀ g, StZip g z TI TO .none → Heap.SameBut z s.heap g → Q () { s with heap := g }) : wpAny (model prog w) A (letOwnedTupleGo (.Tuple elts x1 pos) (.ref z) (.ref T)) Q E s := by
  unfold letOwnedTupleGo
  refine wpAny_bind (wpAny_load hz ?_)
  show wpAny _ _ (if (_ && (#[rawInt T, .bool false, .bool true, .ref TI, .ref TO] : Array Value)[0]? == some (rawInt T)) = true then _ else _) Q E s
  rw [if_pos (by simp)]
  refine wpAny_bind (wpAny_rule ?_)
  show wpAny _ _ (setField (.ref z) 0 .none) Q E s
  exact wpAny_setField_rec hz (by simp) fun g a b => q g a b
theorem again {z TI TO : Addr} {f0 : Value} {Q : Value → Shared → Prop} (hz : StZip s.heap z TI TO f0) (h : Q (.ref z) s) : wpAny (model prog w) A (pyIter (.ref z)) Q E s := by
  have ty : s.TypeIs (.ref z) "zip" := ⟨_, hz, rfl⟩
  refine wpAny_pyIter_slot ty F.slot_zip_iter (wpAny_call_entry F.slot_zip_iter ty F.entry_zip_iter ?_ (F.args_zip_iter_1 _))
  show wpAny _ _ (ret (.ref z)) _ _ s
  exact wpAny_pure ⟨_, rfl, "zip", _, ty, F.slot_zip_next.lookup, h⟩
end
/-- two tuples of one length, their items in new pairs -/
def ItS (K : PySem.W.Frag) (a b : Addr) : It :=
  ⟨fun i H => ∃ (xs ys : List V) (x y : V), SqT K H a xs ∧ SqT K H b ys ∧ xs[i]? = some x ∧ ys[i]? = some y,
    fun i H v H' => ∃ T x y, v = .ref T ∧ H T = none ∧ H' = upd H T (.tup [x, y]) ∧ (∀ xs, SqT K H a xs → xs[i]? = some x) ∧ ∀ ys, SqT K H b ys → ys[i]? = some y,
    fun i H => ∃ xs ys : List V, SqT K H a xs ∧ SqT K H b ys ∧ xs.length ≤ i ∧ ys.length ≤ i⟩
theorem turnS {P : Program} {w : World} {K : PySem.W.Frag} {elts : List Expr} {kk : Nat} {tpos : Pos} {a b z TI TO i1 i2 : Addr} (D : ZipApart z TI TO i1 i2 a b) :
    Turn P w K (.Tuple elts kk tpos) (ItS K a b) [z, TI, TO, i1, i2] z (fun i h => StZip h z TI TO .none ∧ IsPair h TI (.ref i1) (.ref i2) ∧ (∃ x y, IsPair h TO x y) ∧ h.IsTupleIter i1 a i ∧ h.IsTupleIter i2 b i) where
  mem := List.mem_cons_self
  obj := fun i h st c hc => by
    obtain ⟨hz, hTI, ⟨x, y, hTO⟩, ⟨o1, e1, _, d1⟩, ⟨o2, e2, _, d2⟩⟩ := st
    simp only [List.mem_cons, List.not_mem_nil, or_false] at hc
    rcases hc with rfl | rfl | rfl | rfl | rfl
    · exact ⟨_, hz, fun v q => nomatch q⟩
    · exact ⟨_, hTI, fun v q => nomatch q⟩
    · exact ⟨_, hTO, fun v q => nomatch q⟩
    · exact ⟨o1, e1, fun v q => by rw [d1] at q; cases q⟩
    · exact ⟨o2, e2, fun v q => by rw [d2] at q; cases q⟩
  keep := fun i h h' st k => by
    obtain ⟨hz, hTI, ⟨x, y, hTO⟩, h1, h2⟩ := st
    exact ⟨k z (by simp) _ hz, k TI (by simp) _ hTI, ⟨x, y, k TO (by simp) _ hTO⟩, h1.at fun o q => k i1 (by simp) o q, h2.at fun o q => k i2 (by simp) o q⟩
  item := by
    intro X hP hw hK hc i pins s σ H E I hf st hg
    subst hP hw hK
    obtain ⟨hz, hTI, ⟨x0, y0, hTO⟩, h1, h2⟩ := st
    obtain ⟨xs, ys, x, y, qx, qy, hx, hy⟩ := hg
    obtain ⟨us, rx, px, _⟩ := I.tuple qx
    obtain ⟨ws, ry, py, _⟩ := I.tuple qy
    obtain ⟨u, hu, ru⟩ := rx.get hx
    obtain ⟨v, hv, rv⟩ := ry.get hy
    have zl : z < s.heap.objs.size := Heap.lt_size hz
    refine next_item D hz hTI hTO h1 h2 px py (x := u) (y := v) (by simpa using hu) (by simpa using hv) fun g z' TO' t1 t2 hT hsz hk => ?_
    refine ⟨_, rfl, goes (s := { s with heap := g }) z' fun g2 z2 sb => ?_⟩
    have hT2 : g2.get? s.heap.objs.size = some { cls := .type "tuple", data := .seq #[u, v] } := (sb.2 _ (Nat.ne_of_gt zl)).trans hT
    have new : ObjOk X.prog X.w (upd H s.heap.objs.size (.tup [x, y])) g2 s.heap.objs.size (.tup [x, y]) := ⟨by show 2 ≤ sizeLine; decide, [u, v], .cons ru (.cons rv .nil), ⟨_, hT2, rfl, _, rfl⟩⟩
    have I1 : L2.Inv X pins σ (upd H s.heap.objs.size (.tup [x, y])) { s with heap := g2 } := I.turnedNew (t' := s.toks) (ch := [z, TI, TO, i1, i2]) (fun c o hb q => by
      simp only [List.mem_cons, List.not_mem_nil, or_false, not_or] at hb
      obtain ⟨n1, n2, n3, n4, n5⟩ := hb
      exact (sb.2 c n1).trans (hk c o n1 n3 n4 n5 q)) hf (Nat.le_refl _) new
    refine ⟨.ref s.heap.objs.size, _, I1, rfl, ⟨_, x, y, rfl, I.hok.fresh (Nat.le_refl _), rfl, fun l hl => by rw [I.tuple_inj hl qx]; exact hx, fun l hl => by rw [I.tuple_inj hl qy]; exact hy⟩, ⟨z2, ?_, ⟨u, v, ?_⟩, ?_, ?_⟩, fun c hcm => ?_⟩
    · exact (sb.2 _ D.TIz).trans (hk _ _ D.TIz D.TITO D.TIi1 D.TIi2 hTI)
    · exact (sb.2 _ D.TOz).trans TO'
    · exact t1.at fun o q => (sb.2 _ D.i1z).trans q
    · exact t2.at fun o q => (sb.2 _ D.i2z).trans q
    · have hlt : c < s.heap.objs.size := by
        simp only [List.mem_cons, List.not_mem_nil, or_false] at hcm
        obtain ⟨_, e1, _⟩ := id h1
        obtain ⟨_, e2, _⟩ := id h2
        rcases hcm with rfl | rfl | rfl | rfl | rfl
        · exact zl
        · exact Heap.lt_size hTI
        · exact Heap.lt_size hTO
        · exact Heap.lt_size e1
        · exact Heap.lt_size e2
      rw [upd_ne (Nat.ne_of_lt hlt)]
      exact (hf c hcm).1
  done := by
    intro X hP hw hK hc i pins s σ H E I hf st hg
    subst hP hw hK
    obtain ⟨hz, hTI, ⟨x0, y0, hTO⟩, h1, h2⟩ := st
    obtain ⟨xs, ys, qx, qy, l1, l2⟩ := hg
    obtain ⟨us, rx, px, _⟩ := I.tuple qx
    obtain ⟨ws, ry, py, _⟩ := I.tuple qy
    have n1 := rx.length
    have n2 := ry.length
    refine next_end (I.ok.hd hc) D hz hTI hTO h1 h2 px py (by simp; omega) (by simp; omega) fun g hk => ⟨rfl, ?_⟩
    refine I.turnedL (t' := s.toks) (ch := [z, TI, TO, i1, i2]) (fun c o hb q => hk c o ?_ ?_ ?_ ?_ q) hf <;> exact fun e => hb (by simp [e])
  self := fun A i s Q E st h => again st.1 h
def iZipS (K : PySem.W.Frag) (ta : TA) : TI := fun σ H R => ta σ H fun vs H1 => ∃ a b xs ys, vs = [.ref a, .ref b] ∧ SqT K H1 a xs ∧ SqT K H1 b ys ∧ R (ItS K a b) H1
theorem pi_zipS {X : Cx} {e e2 : Expr} {ta : TA} {p pos tpos kp cp : Pos} {elts : List Expr} {kk jj : Nat} (hg : Gl X "zip") (hm : X.mg "zip" = none) (ha : PA X [e, e2] ta)
    (hs : starEach [e, e2] X.env = (false, eval e X.env) :: starEach [e2] X.env := by rfl) (hpl : (backTo pos (starEach [e2] X.env)).any (·.1) = false := by rfl) :
    PI X (.Tuple elts kk tpos) (.Call (.Name "zip" p) [e, e2] [⟨some "strict", .Constant (.bool true) jj cp, kp⟩] pos) (iZipS X.K ta) := by
  refine ⟨fun pins s σ H R I h => ?_⟩
  refine wpAny_Call_Name_kw (ld_blt I hg hm PyProof.Rows.boot_zip ?_)
  have bk : backTo pos (starEach [e, e2] X.env) = (false, eval e X.env) :: backTo pos (starEach [e2] X.env) := by rw [hs]; rfl
  refine withKw (by rw [bk]; exact hpl) rfl ?_
  have h0 := ha.run pos pins s σ H _ I h
  rw [bk] at h0 ⊢
  refine PyProof.Rows.evalArgs_kwB rfl (thn h0 ?_)
  rintro us s1 ⟨vs, H1, I1, r1, a, b, xs, ys, ev, qx, qy, q⟩
  subst ev
  refine PyProof.Rows.kws_cons (PyProof.Rows.Constant_bool (PyProof.Rows.kws_nil ?_))
  cases r1 with
  | cons r rr =>
    cases rr with
    | cons r' rr =>
      cases rr
      cases r
      cases r'
      obtain ⟨ts, _, p1, _⟩ := I1.tuple qx
      obtain ⟨ws, _, p2, _⟩ := I1.tuple qy
      obtain ⟨o1, ho1, _⟩ := id p1
      obtain ⟨o2, ho2, _⟩ := id p2
      refine zip_made (show s1.heap.IsTuple a ts.toArray from p1) (show s1.heap.IsTuple b ws.toArray from p2) fun g hz hTI hTO h1 h2 hsz hk => again hz ?_
      have I2 : L2.Inv X pins σ H1 { s1 with heap := g } := I1.kept (t' := s1.toks) hk
      have new5 : ∀ c ∈ [s1.heap.objs.size + 4, s1.heap.objs.size + 2, s1.heap.objs.size + 3, s1.heap.objs.size, s1.heap.objs.size + 1], FpOk X pins H1 c := fun c hcm => by
        have hle : s1.heap.objs.size ≤ c := by
          simp only [List.mem_cons, List.not_mem_nil, or_false] at hcm
          rcases hcm with z | z | z | z | z <;> rw [z] <;> first | exact Nat.le_refl _ | exact Nat.le_add_right _ _
        exact I1.fpOk hle (I1.hok.fresh hle)
      exact ⟨s1.heap.objs.size + 4, [s1.heap.objs.size + 4, s1.heap.objs.size + 2, s1.heap.objs.size + 3, s1.heap.objs.size, s1.heap.objs.size + 1], _, _, H1, rfl, I2, turnS (PySem.W.ktu_apart s1.heap.objs.size a b (Heap.lt_size ho1) (Heap.lt_size ho2)), ⟨hz, hTI, ⟨_, _, hTO⟩, h1, h2⟩, new5, q⟩
end PZ
namespace PD
open PySem PySem.Spec L2
variable [Tbs]
omit [Tbs] in
def gZipS : List D → Option (List D)
  | [.tup xs, .tup ys] => if immL xs && immL ys && decide (xs.length = ys.length) then some (zipL xs ys) else none
  | _ => none
theorem di_zipS {X : Cx} {W : WX} {a b : Expr} {fl : EvL} {p pos tpos kp cp : Pos} {elts : List Expr} {kk jj : Nat} (hg : Gl X "zip") (hm : X.mg "zip" = none) (ha : DL X W [a, b] fl)
    (hs : starEach [a, b] X.env = (false, eval a X.env) :: starEach [b] X.env := by rfl) (hpl : (backTo pos (starEach [b] X.env)).any (·.1) = false := by rfl) : DI X W (.Tuple elts kk tpos) (.Call (.Name "zip" p) [a, b] [⟨some "strict", .Constant (.bool true) jj cp, kp⟩] pos) (dIterL gZipS fl) := by
  refine PI.imp (PZ.pi_zipS hg hm ha hs hpl) fun σ H R h => ?_
  refine iterL_core h fun vs ds xs H1 hd r => ?_
  unfold gZipS at hd
  split at hd
  · rename_i xs ys
    split at hd
    · rename_i hi
      simp at hi
      cases hd
      obtain ⟨v, w, G, G', rfl, rv, rw'⟩ := r.two
      obtain ⟨a, vs, rfl, h1, h2, h3⟩ := rv.tup_inv
      obtain ⟨b, ws, rfl, k1, k2, k3⟩ := rw'.tup_inv
      refine ⟨PZ.ItS X.K a b, fun H2 r2 i => ?_, fun hr => ⟨a, b, vs, ws, rfl, h1, k1, hr⟩⟩
      obtain ⟨v2, w2, G2, G2', e2, rv2, rw2⟩ := r2.two
      cases e2
      obtain ⟨a', us, ea, h1, h2, h3⟩ := rv2.tup_inv
      cases ea
      obtain ⟨a', us', ea, k1, k2, k3⟩ := rw2.tup_inv
      cases ea
      refine ⟨fun hj => ⟨us, us', h1, k1, ?_⟩, fun c hc => ?_⟩
      · rw [h3.length, k3.length]
        simp only [zipL, List.length_map, List.length_zip] at hj
        omega
      · obtain ⟨c1, c2, hc1, hc2, rfl⟩ := zipL_get hc
        obtain ⟨u, Gu, hu, ru, _⟩ := h3.get hc1
        obtain ⟨u', Gu', hu', ru', _⟩ := k3.get hc2
        refine ⟨⟨us, us', u, u', h1, k1, hu, hu'⟩, fun x H' y => ?_⟩
        obtain ⟨T, x', y', rfl, nT, rfl, hy, hy'⟩ := y
        have q1 := hy us h1
        have q2 := hy' us' k1
        rw [hu] at q1; cases q1
        rw [hu'] at q2; cases q2
        exact rep_pair nT ru ru' (immL_iff.mp hi.1.1 _ (List.mem_of_getElem? hc1)) (immL_iff.mp hi.1.2 _ (List.mem_of_getElem? hc2))
    · cases hd
  · cases hd
end PD
end
section
set_option Elab.async false
set_option linter.all false
set_option maxRecDepth 100000
set_option maxHeartbeats 4000000
/-! enumerate(tuple); x in nested data; repr; sorted; list.index. -/
namespace PZ
open PySem PySem.Spec L2
theorem meets_enumT (l : Addr) (items : Array Value) :
    Meets (Builtin.«enumerate.__new__» ⟨[.type "enumerate", .ref l], []⟩) (fun _ R s => s.heap.IsTuple l items ∧
      R (.ok (.ret (.ref (s.heap.push { cls := .type "tuple_iterator", data := .fields #[.ref l, .int 0 0] }).objs.size)))
        { s with heap := (s.heap.push { cls := .type "tuple_iterator", data := .fields #[.ref l, .int 0 0] }).push { cls := .type "enumerate", data := .fields #[.none, .bool false, .ref s.heap.objs.size, rawInt 0, .none, .none] } }) :=
  .of_wp fun prog w A R s h => by
    obtain ⟨hp, g, d, tk, os⟩ := s; obtain ⟨hl, h⟩ := h
    have hsub := sub_enumerate
    have hL : Heap.IsTuple (Shared.heap ⟨hp, g, d, tk, os⟩) l items := hl
    wp_walk using wpAny_pyIter_tuple hL
    refine wpAny_stack_any fun st => wpAny_pure ?_
    split
    · rename_i c _ _ _ _ _
      cases (c == Value.type "enumerate")
      · wp_walk using wpAny_pyIter_tuple hL
        exact ⟨_, rfl, h⟩
      · wp_walk using wpAny_pyIter_tuple hL
        exact ⟨_, rfl, h⟩
    · wp_walk using wpAny_pyIter_tuple hL
      exact ⟨_, rfl, h⟩
section
variable {prog : Program} {w : World} {A : Around} {E : Value → Shared → Prop} {s : Shared}
theorem call_enumT {l : Addr} {items : Array Value} {Q : Value → Shared → Prop} (hl : s.heap.IsTuple l items)
    (h : ∀ h', IsEnum h' (s.heap.objs.size + 1) s.heap.objs.size 0 .none → h'.IsTupleIter s.heap.objs.size l 0 → h'.objs.size = s.heap.objs.size + 2 →
      (∀ b o, s.heap.get? b = some o → h'.get? b = some o) → Q (.ref (s.heap.objs.size + 1)) { s with heap := h' }) :
    wpAny (model prog w) A (call (.type "enumerate") [.ref l]) Q E s := by
  refine callType_new F.called_enumerate (by decide) (F.typeCall_enumerate_1 _) (F.newCall_enumerate_1 _) (fun obj => F.args_object_init_2 obj _) F.entry_enumerate_new
    (meets_enumT l items) ⟨hl, ?_⟩
  have hz : (s.heap.push { cls := .type "tuple_iterator", data := .fields #[.ref l, .int 0 0] }).objs.size = s.heap.objs.size + 1 := Heap.size_push ..
  show _ ∧ _
  rw [hz]
  have he : IsEnum ((s.heap.push { cls := .type "tuple_iterator", data := .fields #[.ref l, .int 0 0] }).push
      { cls := .type "enumerate", data := .fields #[.none, .bool false, .ref s.heap.objs.size, rawInt 0, .none, .none] }) (s.heap.objs.size + 1) s.heap.objs.size 0 .none := by
    have := Heap.get?_push_size (s.heap.push { cls := .type "tuple_iterator", data := .fields #[.ref l, .int 0 0] })
      (o := { cls := .type "enumerate", data := .fields #[.none, .bool false, .ref s.heap.objs.size, rawInt 0, .none, .none] }) rfl
    rw [hz] at this; exact this
  refine ⟨⟨_, he, rfl⟩, h _ he ⟨_, Heap.get?_push_of_some _ (Heap.get?_push_size _ rfl), rfl, rfl⟩ (by rw [Heap.size_push, hz]) fun b o x => Heap.get?_push_of_some _ (Heap.get?_push_of_some _ x)⟩
end
/-- the tuple at a, each item in a new pair -/
def IteT (K : PySem.W.Frag) (a : Addr) : It :=
  ⟨fun i H => ∃ (xs : List V) (x : V), SqT K H a xs ∧ xs[i]? = some x, fun i H v H' => ∃ T x, v = .ref T ∧ H T = none ∧ H' = upd H T (.tup [.int (i : Nat), x]) ∧ ∀ xs, SqT K H a xs → xs[i]? = some x, fun i H => ∃ xs : List V, SqT K H a xs ∧ xs.length ≤ i⟩
theorem turn_enumT {P : Program} {w : World} {K : PySem.W.Frag} {elts : List Expr} {kk : Nat} {tpos : Pos} (a e it : Addr) (hai : a ≠ it) (hea : e ≠ a) :
    Turn P w K (.Tuple elts kk tpos) (IteT K a) [e, it] e (fun i h => (∃ old, IsEnum h e it ((i : Nat) : Int) old) ∧ h.IsTupleIter it a i ∧ e ≠ it) where
  mem := by simp
  obj := fun i h st b hb => by
    obtain ⟨⟨old, he⟩, ⟨o, ho, hc, hd⟩, _⟩ := st
    have e' : b = e ∨ b = it := by simpa using hb
    rcases e' with z | z
    · rw [z]; exact ⟨_, he, fun v q => nomatch q⟩
    · rw [z]; exact ⟨o, ho, fun v q => by rw [hd] at q; cases q⟩
  keep := fun i h h' st k => let ⟨⟨old, he⟩, hi, hne⟩ := st; ⟨⟨old, k e (by simp) _ he⟩, hi.at fun o q => k it (by simp) o q, hne⟩
  item := by
    intro X hP hw hK hc i pins s σ H E I hf st hg
    subst hP hw hK
    obtain ⟨⟨old, he⟩, hit, hne⟩ := st
    obtain ⟨xs, x, hq, hx⟩ := hg
    obtain ⟨its, rv, p, hz⟩ := I.tuple hq
    obtain ⟨u, hu, ru⟩ := rv.get hx
    have hel : e < s.heap.objs.size := Heap.lt_size he
    have hil : it < s.heap.objs.size := by obtain ⟨_, q, _⟩ := hit; exact Heap.lt_size q
    have hlt : i < its.toArray.size := by
      have := (List.getElem?_eq_some_iff.mp hu).1
      simpa using this
    refine wpAny_pyNext_enum_itemD (fp := [it, a]) (Draws.tuple (show X.A.in1.handled = none from I.ok.hd hc) it a hai its.toArray) he ⟨hit, p⟩ hlt hne (by simp only [List.mem_cons, List.not_mem_nil, or_false]; exact fun z => z.elim hne hea) fun y h' tk hP ho hst hT hsz hk => ?_
    obtain ⟨hit', _⟩ := hst
    have ey : y = u := by
      have e1 : its[i]? = some y := by simpa using hP
      rw [hu] at e1; exact (Option.some.inj e1).symm
    subst ey
    refine ⟨_, rfl, wpAny_letOwnedTupleGo_enum (s := { s with heap := h', toks := tk + 1 }) ho fun h'' he' sb => ?_⟩
    have hT2 : h''.get? s.heap.objs.size = some { cls := .type "tuple", data := .seq #[.int i tk, y] } := (sb.2 _ (Nat.ne_of_gt hel)).trans hT
    have new : ObjOk X.prog X.w (upd H s.heap.objs.size (.tup [.int (i : Nat), x])) h'' s.heap.objs.size (.tup [.int (i : Nat), x]) :=
      ⟨by show 2 ≤ sizeLine; decide, [.int i tk, y], .cons ⟨_, rfl⟩ (.cons ru .nil), ⟨_, hT2, rfl, _, rfl⟩⟩
    have I1 : L2.Inv X pins σ (upd H s.heap.objs.size (.tup [.int (i : Nat), x])) { s with heap := h'', toks := tk + 1 } :=
      I.turnedNew (ch := [e, it]) (fun b ob hb q => (sb.2 b (fun z => hb (by simp [z]))).trans (hk b ob (fun z => hb (by simp [z])) (fun z => hb (by simp [z])) q)) hf (Nat.le_refl _) new
    refine ⟨.ref s.heap.objs.size, _, I1, rfl, ⟨_, x, rfl, I.hok.fresh (Nat.le_refl _), rfl, fun ys hy => by rw [I.tuple_inj hy hq]; exact hx⟩, ⟨⟨y, ?_⟩, hit'.at fun o q => (sb.2 it (Ne.symm hne)).trans q, hne⟩, fun b hb => ?_⟩
    · have e1 : ((i + 1 : Nat) : Int) = (i : Int) + 1 := by omega
      rw [e1]; exact he'
    · have hb' : b < s.heap.objs.size := by
        have e' : b = e ∨ b = it := by simpa using hb
        rcases e' with z | z
        · rw [z]; exact hel
        · rw [z]; exact hil
      rw [upd_ne (Nat.ne_of_lt hb')]
      exact (hf b hb).1
  done := by
    intro X hP hw hK hc i pins s σ H E I hf st hg
    subst hP hw hK
    obtain ⟨⟨old, he⟩, hit, hne⟩ := st
    obtain ⟨xs, hq, hx⟩ := hg
    obtain ⟨its, rv, p, hz⟩ := I.tuple hq
    have hl := rv.length
    have fin : ∀ h', Heap.ExtBut it s.heap h' → (none : Option Value) = none ∧ L2.Inv X pins σ H { s with heap := h' } := fun h' eb => ⟨rfl, by
      refine I.turnedL (t' := s.toks) (ch := [e, it]) (fun c o hb q => eb c o (fun z => hb (by simp [z])) q) hf⟩
    unfold pyNext
    have hT : s.TypeIs (.ref e) "enumerate" := ⟨_, he, rfl⟩
    refine wpAny_bind (wpAny_attempt (wpAny_callSpecial?_slot (name := Str.ofString "__next__") hT F.slot_enumerate_next
      (wpAny_call_entry F.slot_enumerate_next hT F.entry_enumerate_next ?_ (F.args_enumerate_next_1 _))))
    show wpAny _ _ (field (.ref e) 2 >>= _) _ _ _
    refine wpAny_bind (wpAny_field he rfl (x := .ref it) rfl ?_)
    refine wpAny_bind (wpAny_nextOf_tuple_end (show X.A.in1.handled = none from I.ok.hd hc) hit p (by simp; omega) fun h' x he' hx' => ?_)
    obtain ⟨o, ho, hc'⟩ := hx'
    refine wpAny_bind (wpAny_isInstance (T := "StopIteration") (b := true) ⟨o, ho, hc'⟩ isSubtype_stop ?_)
    exact wpAny_pure (fin h' he')
  self := fun A i s Q E st h => let ⟨⟨_, he⟩, _⟩ := st; wpAny_pyIter_enum he h
def iEnumT (K : PySem.W.Frag) (ta : TA) : TI := fun σ H R => ta σ H fun vs H1 => ∃ a xs, vs = [.ref a] ∧ SqT K H1 a xs ∧ R (IteT K a) H1
theorem pi_enumT {X : Cx} {e : Expr} {ta : TA} {p pos tpos : Pos} {elts : List Expr} {kk : Nat} (hg : Gl X "enumerate") (hm : X.mg "enumerate" = none) (ha : PA X [e] ta) (hs : starEach [e] X.env = [(false, eval e X.env)] := by rfl) :
    PI X (.Tuple elts kk tpos) (.Call (.Name "enumerate" p) [e] [] pos) (iEnumT X.K ta) := by
  refine ⟨fun pins s σ H R I h => ?_⟩
  refine PyProof.Rows.Call_ (ld_blt I hg hm PyProof.Rows.boot_enumerate (PyProof.Rows.callWith_type1 (thn (ha.run pos pins s σ H _ I h) fun us s1 ⟨vs, H1, I1, r1, q1⟩ => ?_) hs rfl))
  obtain ⟨a, xs, ex, hq, q⟩ := q1
  subst ex
  cases r1 with
  | cons r rr =>
    cases rr
    cases r
    obtain ⟨its, rv, p', hz⟩ := I1.tuple hq
    have hal : a < s1.heap.objs.size := by obtain ⟨o, ho, _⟩ := id p'; exact Heap.lt_size ho
    refine call_enumT p' fun h' he hit hsz hk => wpAny_pyIter_enum he ?_
    have I2 : L2.Inv X pins σ H1 { s1 with heap := h' } := I1.kept (t' := s1.toks) hk
    refine ⟨s1.heap.objs.size + 1, [s1.heap.objs.size + 1, s1.heap.objs.size], _, _, H1, rfl, I2, turn_enumT a (s1.heap.objs.size + 1) s1.heap.objs.size (Nat.ne_of_lt hal) (fun z => by rw [← z] at hal; exact absurd hal (Nat.not_lt.mpr (Nat.le_succ _))), ⟨⟨.none, he⟩, hit, Nat.succ_ne_self _⟩, fun b hb => ?_, q⟩
    have e' : b = s1.heap.objs.size + 1 ∨ b = s1.heap.objs.size := by simpa using hb
    have hle : s1.heap.objs.size ≤ b := by
      rcases e' with z | z
      · rw [z]; exact Nat.le_add_right _ _
      · rw [z]; exact Nat.le_refl _
    exact I1.fpOk hle (I1.hok.fresh hle)
end PZ
namespace PD
open PySem PySem.Spec L2
variable [Tbs]
omit [Tbs] in
def gEnumT : List D → Option (List D)
  | [.tup xs] => if immL xs then some (enumL xs) else none
  | _ => none
theorem di_enumT {X : Cx} {W : WX} {a : Expr} {fl : EvL} {p pos tpos : Pos} {elts : List Expr} {kk : Nat} (hg : Gl X "enumerate") (hm : X.mg "enumerate" = none) (ha : DL X W [a] fl)
    (hs : starEach [a] X.env = [(false, eval a X.env)] := by rfl) : DI X W (.Tuple elts kk tpos) (.Call (.Name "enumerate" p) [a] [] pos) (dIterL gEnumT fl) := by
  refine PI.imp (PZ.pi_enumT hg hm ha hs) fun σ H R h => ?_
  refine iterL_core h fun vs ds xs H1 hd r => ?_
  unfold gEnumT at hd
  split at hd
  · rename_i xs
    split at hd
    · rename_i hi
      cases hd
      obtain ⟨v, G, rfl, rv⟩ := r.one
      obtain ⟨a, vs, rfl, h1, h2, h3⟩ := rv.tup_inv
      refine ⟨PZ.IteT X.K a, fun H2 r2 i => ?_, fun hr => ⟨a, _, rfl, h1, hr⟩⟩
      obtain ⟨v2, G2, e2, rv2⟩ := r2.one
      cases e2
      obtain ⟨a', us, ea, k1, k2, k3⟩ := rv2.tup_inv
      cases ea
      refine ⟨fun hi => ⟨us, k1, by rw [k3.length]; simpa [enumL] using hi⟩, fun c hc => ?_⟩
      obtain ⟨c', hc', rfl⟩ := enumL_get hc
      obtain ⟨u, Gu, hu, ru, _⟩ := k3.get hc'
      refine ⟨⟨us, u, k1, hu⟩, fun x H' y => ?_⟩
      obtain ⟨T, x', rfl, nT, rfl, hy⟩ := y
      have := hy us k1
      rw [hu] at this; cases this
      exact rep_pair nT (.int (F := fun _ => False) _ fun _ z => z) ru rfl (immL_iff.mp hi _ (List.mem_of_getElem? hc'))
    · cases hd
  · cases hd

/-! ### x in nested data -/
omit [Tbs] in
def anyP (x : D) (ys : List D) : Bool := (toPL ys).any fun z => PyData.eqv z (toP x)
omit [Tbs] in
def gInN (neg : Bool) : D → D → Option D := fun a b => match b.seq with
  | some ys => if SeqAt.shaped (toP a) && SeqAt.shaped (toP (.tup ys)) then some (.bl (if neg then !anyP a ys else anyP a ys)) else none
  | none => none
omit [Tbs] in
def rInN (K : PySem.W.Frag) (neg : Bool) : R2 := fun x y H Q => ∃ d ds, Dp K H x d ∧ (Dp K H y (.list ds) ∨ Dp K H y (.tuple ds)) ∧ SeqAt.shaped d = true ∧ SeqAt.shaped (.list ds) = true ∧ Q (.bl (if neg then !ds.any fun z => PyData.eqv z d else ds.any fun z => PyData.eqv z d)) H
section
variable {X : Cx}
theorem op_inN (hu : X.A.units + 65 < cLine) : OpR X (compareOp .In) (rInN X.K false) := by
  intro pins s σ H x y v u Q I rx ry h
  obtain ⟨d, ds, hd, he, sd, se, q⟩ := h
  obtain ⟨as, r1⟩ := Dp.reads I d x v hd rx
  rcases he with he | he
  · obtain ⟨bs, r2⟩ := Dp.reads I (.list ds) y u he ry
    exact SeqAt.in_list_reads r2 r1 (SeqAt.canLay_of_shaped se) (SeqAt.canLay_of_shaped sd) (PyProof.Rows.room_in_shaped sd hu) ⟨.bl _, H, I, rfl, q⟩
  · obtain ⟨bs, r2⟩ := Dp.reads I (.tuple ds) y u he ry
    exact SeqAt.in_tuple_reads r2 r1 (SeqAt.canLay_of_shaped se) (SeqAt.canLay_of_shaped sd) (PyProof.Rows.room_in_shaped sd hu) ⟨.bl _, H, I, rfl, q⟩
theorem op_notInN (hu : X.A.units + 65 < cLine) : OpR X (compareOp .NotIn) (rInN X.K true) := by
  intro pins s σ H x y v u Q I rx ry h
  obtain ⟨d, ds, hd, he, sd, se, q⟩ := h
  obtain ⟨as, r1⟩ := Dp.reads I d x v hd rx
  rcases he with he | he
  · obtain ⟨bs, r2⟩ := Dp.reads I (.list ds) y u he ry
    exact SeqAt.notIn_list_reads r2 r1 (SeqAt.canLay_of_shaped se) (SeqAt.canLay_of_shaped sd) (PyProof.Rows.room_in_shaped sd hu) ⟨.bl _, H, I, rfl, q⟩
  · obtain ⟨bs, r2⟩ := Dp.reads I (.tuple ds) y u he ry
    exact SeqAt.notIn_tuple_reads r2 r1 (SeqAt.canLay_of_shaped se) (SeqAt.canLay_of_shaped sd) (PyProof.Rows.room_in_shaped sd hu) ⟨.bl _, H, I, rfl, q⟩
end
theorem shaped_seq (ds : List PyData) : SeqAt.shaped (.tuple ds) = SeqAt.shaped (.list ds) := by
  unfold SeqAt.shaped
  simp [PyData.canLay0, PyData.depth]
theorem ops_inN {K : PySem.W.Frag} (neg : Bool) : OpS K (rInN K neg) (gInN neg) := by
  intro v w H a b G1 G2 d Q r1 r2 e q
  unfold gInN at e
  split at e
  · rename_i ys hy
    split at e
    · rename_i h
      simp only [Bool.and_eq_true] at h
      cases e
      obtain ⟨h1, h2⟩ := h
      rw [toP, shaped_seq] at h2
      refine ⟨toP a, toPL ys, r1.dp (shaped_lay h1), ?_, h1, h2, q _ H (fun _ => False) (Sm.refl H) (fun _ z => z.elim) (.bl _ fun _ z => z)⟩
      cases b <;> simp [D.seq, D.lis] at hy
      · subst hy
        right
        have := r2.dp (by rw [toP]; have := shaped_lay h2; simpa [PyData.canLay0] using this)
        rwa [toP] at this
      · subst hy
        left
        have := r2.dp (by rw [toP]; have := shaped_lay h2; simpa [PyData.canLay0] using this)
        rwa [toP] at this
      · subst hy
        left
        have := r2.dp (by rw [toP]; have := shaped_lay h2; simpa [PyData.canLay0] using this)
        rwa [toP] at this
    · cases e
  · cases e

/-! ### list.index -/
omit [Tbs] in
def findP (d : PyData) : List PyData → Nat → Option Nat
  | [], _ => none
  | z :: r, n => if PyData.eqv z d then some n else findP d r (n + 1)
theorem findP_spec {d : PyData} : ∀ {ds : List PyData} {n j : Nat}, findP d ds n = some j → n ≤ j ∧ (∃ z, ds[j - n]? = some z ∧ PyData.eqv z d = true) ∧ ∀ m z', m < j - n → ds[m]? = some z' → PyData.eqv z' d = false
  | [], n, j, h => by cases h
  | z :: r, n, j, h => by
    unfold findP at h
    split at h
    · rename_i hz
      cases h
      exact ⟨Nat.le_refl _, ⟨z, by simp, hz⟩, fun m z' hm => by omega⟩
    · rename_i hz
      obtain ⟨h1, ⟨w, h2, h3⟩, h4⟩ := findP_spec h
      refine ⟨by omega, ⟨w, ?_, h3⟩, fun m z' hm hm' => ?_⟩
      · have e1 : j - n = (j - (n + 1)) + 1 := by omega
        rw [e1, List.getElem?_cons_succ]; exact h2
      · cases m with
        | zero => simp at hm'; subst hm'; simpa using hz
        | succ m => rw [List.getElem?_cons_succ] at hm'; exact h4 m z' (by omega) hm'
omit [Tbs] in
def gIndex : List D → List D → Option (D × List D) := fun xs es => match es with
  | [d] => if SeqAt.shaped (toP (.lst xs)) && SeqAt.shaped (toP d) then (findP (toP d) (toPL xs) 0).map fun j => (.int (j : Nat), xs) else none
  | _ => none
theorem upd_id {H : Hp} {a : Addr} {o : HO} (h : H a = some o) : L2.upd H a o = H := by
  funext b
  by_cases e : b = a
  · subst e; rw [upd_same, h]
  · rw [upd_ne e]
theorem mts_index {K : PySem.W.Frag} : MtS K (rIndexD K) gIndex := by
  intro a vs ds G us es Fe H y Q hl hlen rl re dj e q
  unfold gIndex at e
  split at e
  · rename_i d
    split at e
    · rename_i h
      simp only [Bool.and_eq_true] at h
      cases ef : findP (toP d) (toPL ds) 0 with
      | none => rw [ef] at e; cases e
      | some j =>
        rw [ef] at e
        cases e
        obtain ⟨v, Fv, rfl, rv⟩ : ∃ v Fv, us = [v] ∧ Rep K H v d Fv := by
          cases re with | cons r t _ _ => cases t; exact ⟨_, _, rfl, r⟩
        obtain ⟨_, ⟨z, hz, hz1⟩, hz2⟩ := findP_spec ef
        rw [Nat.sub_zero] at hz
        have h1 := h.1
        rw [toP] at h1
        have q1 := q (.int (j : Nat)) vs G (fun _ => False) hlen rl (.int _ fun _ z => z) (fun _ z => z.elim) (fun _ z => .inl z) (fun _ z => z.elim)
        rw [upd_id hl] at q1
        refine ⟨a, v, toP d, toPL ds, j, z, rfl, rfl, ?_, rv.dp (shaped_lay h.2), h1, h.2, hz, hz1, fun m z' hm hm' => hz2 m z' (by omega) hm', q1⟩
        exact .lst (SqL.of hl) (RepL.dp rl (by have := shaped_lay h1; simpa [PyData.canLay0] using this))
    · cases e
  · cases e

/-! ### sorted -/
omit [Tbs] in
def intsOf : List D → Option (List Int)
  | [] => some []
  | .int i :: r => (intsOf r).map (i :: ·)
  | _ => none
theorem intsOf_eq : ∀ {xs : List D} {ns : List Int}, intsOf xs = some ns → xs = ns.map D.int
  | [], ns, h => by cases h; rfl
  | .int i :: r, ns, h => by
    simp only [intsOf] at h
    cases q : intsOf r with
    | none => rw [q] at h; cases h
    | some z => rw [q] at h; cases h; rw [intsOf_eq q]; rfl
theorem intsOf_map (ns : List Int) : intsOf (ns.map D.int) = some ns := by
  induction ns with
  | nil => rfl
  | cons a r ih => simp [intsOf, ih]
omit [Tbs] in
def keysI : List (Key × D) → Option (List Int)
  | [] => some []
  | (.inl i, _) :: r => (keysI r).map (i :: ·)
  | _ => none
theorem keysI_eq : ∀ {xs : List (Key × D)} {ns : List Int}, keysI xs = some ns → xs.map (·.1) = ns.map Sum.inl
  | [], ns, h => by cases h; rfl
  | (.inl i, _) :: r, ns, h => by
    simp only [keysI] at h
    cases q : keysI r with
    | none => rw [q] at h; cases h
    | some z => rw [q] at h; cases h; simp [keysI_eq q]
omit [Tbs] in
def srt (ns : List Int) : List Int := ns.mergeSort fun a b => decide (a ≤ b)
theorem srt_perm (ns : List Int) : (srt ns).Perm ns := List.mergeSort_perm ns _
theorem srt_pair (ns : List Int) : (srt ns).Pairwise (· ≤ ·) := by
  have h := List.pairwise_mergeSort (le := fun a b : Int => decide (a ≤ b)) (fun a b c h1 h2 => by simp at *; omega) (fun a b => by simp; omega) ns
  exact h.imp fun h => by simpa using h
theorem srt_of {ns ms : List Int} (p : ms.Perm ns) (h : ms.Pairwise (· ≤ ·)) : ms = srt ns :=
  List.Perm.eq_of_pairwise (le := (· ≤ ·)) (fun a b _ _ h1 h2 => by omega) h (srt_pair ns) (p.trans (srt_perm ns).symm)
theorem RepL.ints {K : PySem.W.Frag} {H : Hp} : ∀ {vs : List V} {ns : List Int} {F}, RepL K H vs (ns.map D.int) F → vs = ns.map V.int
  | _, [], _, h => by cases h; rfl
  | _, n :: r, _, h => by
    cases h with | cons r t _ _ => rw [r.int_inv, RepL.ints t]; rfl
theorem rep_ints {K : PySem.W.Frag} {H : Hp} : ∀ (ns : List Int), RepL K H (ns.map V.int) (ns.map D.int) fun _ => False
  | [] => .nil fun _ z => z
  | n :: r => .cons (F1 := fun _ => False) (F2 := fun _ => False) (.int _ fun _ z => z) (rep_ints r) (fun _ z => z.elim) fun _ => by simp
theorem imm_ints : ∀ ns : List Int, immL (ns.map D.int) = true
  | [] => rfl
  | n :: r => by simp [immL, D.imm, imm_ints r]
omit [Tbs] in
def gSortL : List D → Option D
  | [.lst xs] => (intsOf xs).bind fun ns => if ns.length ≤ LIM then some (.lst ((srt ns).map .int)) else none
  | _ => none
theorem cs_sortL {K : PySem.W.Frag} : CallS K (rSortedI K) gSortL := by
  intro vs H ds d Q h e q
  unfold gSortL at e
  split at e
  · rename_i xs
    cases ei : intsOf xs with
    | none => rw [ei] at e; cases e
    | some ns =>
      rw [ei] at e
      simp only [Option.bind_some] at e
      split at e
      · rename_i hl
        cases e
        obtain ⟨v, G, rfl, r⟩ := h.one
        obtain ⟨a, us, G', rfl, h1, h2, h3, _⟩ := r.lst_inv
        rw [intsOf_eq ei] at h3
        rw [h3.ints] at h1
        refine ⟨a, ns, rfl, SqL.of h1, fun ns' p k1 k2 hp => ?_⟩
        rw [srt_of k1 k2]
        refine q _ _ (fun x => x = p) (Sm.new hp) (fun x z => by rw [z]; exact hp) (rep_newL hp ?_ (rep_ints _) (imm_ints _))
        rw [List.length_map, (srt_perm ns).length_eq]
        exact lim_line hl
      · cases e
  · cases e
omit [Tbs] in
def gSortD : List D → Option D
  | [.dic kvs] => (keysI kvs).bind fun ns => if ns.length < 64 then some (.lst ((srt ns).map .int)) else none
  | _ => none
theorem cs_sortD {K : PySem.W.Frag} : CallS K (fun xs H Q => ∃ (a : Addr) (kvs : List (Key × V)) (ks : List Int), xs = [.ref a] ∧ Rd H a (.dK kvs) ∧ kvs.map (·.1) = ks.map Sum.inl ∧ ks.length < 64 ∧
    ∀ (ys : List Int) (p : Addr), ys.Perm ks → ys.Pairwise (· ≤ ·) → H p = none → Q (.ref p) (L2.upd H p (.lst (ys.map V.int)))) gSortD := by
  intro vs H ds d Q h e q
  unfold gSortD at e
  split at e
  · rename_i kvs
    cases ei : keysI kvs with
    | none => rw [ei] at e; cases e
    | some ns =>
      rw [ei] at e
      simp only [Option.bind_some] at e
      split at e
      · rename_i hl
        cases e
        obtain ⟨v, G, rfl, r⟩ := h.one
        obtain ⟨a, us, G', rfl, h1, h3, _⟩ := r.dic_inv
        refine ⟨a, us, ns, rfl, .inl h1, ?_, hl, fun ns' p k1 k2 hp => ?_⟩
        · rw [← keysI_eq ei]; exact h3.keys
        · rw [srt_of k1 k2]
          refine q _ _ (fun x => x = p) (Sm.new hp) (fun x z => by rw [z]; exact hp) (rep_newL hp ?_ (rep_ints _) (imm_ints _))
          rw [List.length_map, (srt_perm ns).length_eq]
          exact lim_line (Nat.le_trans (Nat.le_of_lt hl) (by decide))
      · cases e
  · cases e

/-! ### repr -/
omit [Tbs] in
def gRepr : List D → Option D
  | [d] => if (toP d).canLay0 && (toP d).showable && decide ((toP d).depth ≤ 60) && decide ((toP d).shown.length ≤ LIM) then some (.str (toP d).shown) else none
  | _ => none
theorem call_reprP {X : Cx} (hg : X.A.guards = some []) (hu : X.A.units + 65 < cLine) : CallR X (.builtin "repr") (fun xs H Q => ∃ x d, xs = [x] ∧ Dp X.K H x d ∧ d.canLay0 = true ∧ d.showable = true ∧ d.depth ≤ 60 ∧ d.shown.length ≤ LIM ∧ Q (.str d.shown) H) := by
  intro pins s σ H vs us Q I r h
  obtain ⟨x, d, rfl, hd, hc, hs, h60, hl, q⟩ := h
  obtain ⟨u, rfl, rx⟩ := vals1 r
  obtain ⟨as, rd⟩ := Dp.reads I d x u hd rx
  cases rd with
  | none => exact PySem.P.repr_of_none ⟨.str _, H, I.tok _, ⟨_, rfl⟩, q⟩
  | bool b => exact PySem.P.repr_of_bool ⟨.str _, H, I.tok _, ⟨_, rfl⟩, q⟩
  | int i t =>
    rw [PyData.showable] at hs
    exact PySem.P.repr_of_int (of_decide_eq_true hs) ⟨.str _, H, I.tok _, ⟨_, rfl⟩, q⟩
  | str x t => exact PySem.P.repr_of_str ⟨.str _, H, I.tok _, ⟨_, rfl⟩, q⟩ (lim_line (by simpa [PyData.shown] using hl))
  | list a b c e =>
    refine repr_of_reads' (.list a b c e) hs (PyData.noDict_hsm (PyData.hasDict_of_canLay _ hc)) hg (by omega) (fun _ _ z => z) (fun h' u tk hk => ?_) (lim_line hl)
    exact ⟨.str _, H, I.kept (t' := tk) hk, ⟨_, rfl⟩, q⟩
  | tuple a b c e =>
    refine repr_of_reads' (.tuple a b c e) hs (PyData.noDict_hsm (PyData.hasDict_of_canLay _ hc)) hg (by omega) (fun _ _ z => z) (fun h' u tk hk => ?_) (lim_line hl)
    exact ⟨.str _, H, I.kept (t' := tk) hk, ⟨_, rfl⟩, q⟩
  | dict a b c e f => cases hd
theorem cs_repr {K : PySem.W.Frag} : CallS K (fun xs H Q => ∃ x d, xs = [x] ∧ Dp K H x d ∧ d.canLay0 = true ∧ d.showable = true ∧ d.depth ≤ 60 ∧ d.shown.length ≤ LIM ∧ Q (.str d.shown) H) gRepr := by
  intro vs H ds d Q h e q
  unfold gRepr at e
  split at e
  · rename_i d0
    split at e
    · rename_i hh
      simp only [Bool.and_eq_true, decide_eq_true_eq] at hh
      cases e
      obtain ⟨v, G, rfl, r⟩ := h.one
      exact ⟨v, toP d0, rfl, r.dp hh.1.1.1, hh.1.1.1, hh.1.1.2, hh.1.2, hh.2, q _ H (fun _ => False) (Sm.refl H) (fun _ z => z.elim) (.str _ fun _ z => z)⟩
    · cases e
  · cases e
end PD
end
section
set_option Elab.async false
set_option linter.all false
set_option maxRecDepth 100000
set_option maxHeartbeats 4000000
/-! a, b, c = x, y, z; dict([..]) of pairs. -/
namespace PD
open PySem PySem.Spec PyProof.Rows L2
variable [Tbs]
omit [Tbs] in
def tPar3 (i j k : Nat) (ta : TA) : TS := fun D σ H => ta σ H fun vs H1 => ∃ v w u, vs = [v, w, u] ∧ D.nx (((σ.set i (some v)).set j (some w)).set k (some u)) H1
section
variable {X : Cx} {W : WX} {prot : List Nat} {a b c : Expr} {fl : EvL} {pos : Pos}
theorem ps_par3 {i j k : Nat} {x y z : Str} {ta : TA} {px py pz pt : Pos} {kt k2 pt2} (hc : X.calm = true) (hN : X.N.Nodup) (hi : X.N[i]? = some x) (hj : X.N[j]? = some y) (hk : X.N[k]? = some z) (hij : i ≠ j) (hik : i ≠ k) (hjk : j ≠ k)
    (hx : X.env.scope.names.lookup x = some .local) (hy : X.env.scope.names.lookup y = some .local) (hz : X.env.scope.names.lookup z = some .local) (ha : PA X [a, b, c] ta)
    (hw : swappedStores [.Tuple [.Name x px, .Name y py, .Name z pz] kt pt] (.Tuple [a, b, c] k2 pt2) X.env = pure (some [x, y, z]))
    (hs : swapsWithSole [.Tuple [.Name x px, .Name y py, .Name z pz] kt pt] (.Tuple [a, b, c] k2 pt2) pos.line X.env = pure false) :
    PS X (.Assign [.Tuple [.Name x px, .Name y py, .Name z pz] kt pt] (.Tuple [a, b, c] k2 pt2) pos) (tPar3 i j k ta) := by
  refine ⟨fun pins s σ H D I h => ?_⟩
  rw [exec_Assign_arm]
  refine wpAny_bind (wpAny_standAt ?_)
  rw [hs]
  refine wpAny_bind (wpAny_pure ?_)
  rw [if_neg (by decide)]
  refine wpAny_bind (Tuple_ (thn (ha.run _ pins s σ H _ I h) fun us s1 ⟨vs, H1, I1, r1, q1⟩ => ?_))
  obtain ⟨v, w, o, e1, q1⟩ := q1
  subst e1
  obtain ⟨u1, u2, u3, rfl, rv, rw', ro⟩ : ∃ u1 u2 u3, us = [u1, u2, u3] ∧ RelV v u1 ∧ RelV w u2 ∧ RelV o u3 := by
    cases r1 with
    | cons p q =>
      cases q with
      | cons p' q' =>
        cases q' with
        | cons p2 q2 =>
          cases q2
          exact ⟨_, _, _, rfl, p, p', p2⟩
  refine wpAny_newObj_type ?_ (by show 3 ≤ sizeLine; decide)
  have I2 : L2.Inv X pins σ H1 { s1 with heap := s1.heap.push { cls := .type "tuple", data := .seq [u1, u2, u3].toArray } } := I1.kept (t' := s1.toks) fun b o e => Heap.get?_push_of_some _ e
  rw [hw]
  refine wpAny_bind (wpAny_pure ?_)
  show wpAny (model X.prog X.w) X.A (do rule "assign.swapped-stores"; let items ← unpackItems (.ref s1.heap.objs.size) 3 none; assignInOrder [fun v => bindName X.env z v, fun v => bindName X.env y v, fun v => bindName X.env x v] items.reverse; pure Flow.next) _ _ _
  refine wpAny_bind (wpAny_rule (wpAny_bind (unpackItems_tuple (items := #[u1, u2, u3]) (I.ok.hd hc) (IsTup.new s1.heap _) fun h' hx' => ?_)))
  have I3 := I2.kept (h' := h') (t' := s1.toks) fun b o e => hx' b o (Nat.ne_of_lt (Heap.lt_size e)) e
  show wpAny _ _ (assignInOrder [fun v => bindName X.env z v, fun v => bindName X.env y v, fun v => bindName X.env x v] [u3, u2, u1] >>= fun _ => pure Flow.next) _ _ _
  refine wpAny_bind (assignInOrder_cons (wpAny_bindName (store_ok I3 hN hk (.inl hz) ro (fun s2 I4 => ?_) (.inr hz))))
  refine assignInOrder_cons (wpAny_bindName (store_ok I4 hN hj (.inl hy) rw' (fun s3 I5 => ?_) (.inr hy)))
  refine assignInOrder_cons (wpAny_bindName (store_ok I5 hN hi (.inl hx) rv (fun s4 I6 => assignInOrder_nil (wpAny_pure ?_)) (.inr hx)))
  rw [List.set_comm _ _ (Ne.symm hij), List.set_comm _ _ (Ne.symm hik), List.set_comm _ _ (Ne.symm hjk)] at I6
  exact ⟨_, H1, by rw [List.set_comm _ _ hij] at I6; rw [List.set_comm _ _ hij]; exact I6, q1⟩
theorem RepL.three {K : PySem.W.Frag} {H : Hp} {vs : List V} {c d e : D} {G : FP} (r : RepL K H vs [c, d, e] G) : ∃ v w u Fa Fb Fc, vs = [v, w, u] ∧ Rep K H v c Fa ∧ Rep K H w d Fb ∧ Rep K H u e Fc ∧ Disj Fa Fb ∧ Disj Fa Fc ∧ Disj Fb Fc ∧ ∀ x, G x ↔ (Fa x ∨ Fb x ∨ Fc x) := by
  cases r with
  | cons r1 rn n e0 =>
    obtain ⟨v, w, Fa, Fb, rfl, h1, h2, h3, h4⟩ := rn.two
    exact ⟨_, v, w, _, Fa, Fb, rfl, r1, h1, h2, fun x f g => n x f ((h4 x).mpr (.inl g)), fun x f g => n x f ((h4 x).mpr (.inr g)), h3, fun x => by rw [e0, h4]⟩
omit [Tbs] in
def dPar3 (i j k : Nat) (fl : EvL) : Sv := bndL .exc fl fun rs ρ p => (takeRs ρ rs).bind fun z => match z.1 with
  | [c, d, e] => some (.nx (((z.2.set i (some c)).set j (some d)).set k (some e)))
  | _ => none
theorem ds_par3 (i j k : Nat) {x y z : Str} {px py pz pt : Pos} {kt k2 pt2} (hc : X.calm = true) (hN : X.N.Nodup) (ha : DL X W [a, b, c] fl) (hpi : i ∉ prot := by decide) (hpj : j ∉ prot := by decide) (hpk : k ∉ prot := by decide) (hij : i ≠ j := by decide) (hik : i ≠ k := by decide) (hjk : j ≠ k := by decide) (hi : X.N[i]? = some x := by rfl) (hj : X.N[j]? = some y := by rfl) (hk : X.N[k]? = some z := by rfl)
    (hx : X.env.scope.names.lookup x = some .local := by rfl) (hy : X.env.scope.names.lookup y = some .local := by rfl) (hz : X.env.scope.names.lookup z = some .local := by rfl)
    (hw : swappedStores [.Tuple [.Name x px, .Name y py, .Name z pz] kt pt] (.Tuple [a, b, c] k2 pt2) X.env = pure (some [x, y, z]) := by rfl)
    (hs : swapsWithSole [.Tuple [.Name x px, .Name y py, .Name z pz] kt pt] (.Tuple [a, b, c] k2 pt2) pos.line X.env = pure false := by rfl) :
    DS X W prot (.Assign [.Tuple [.Name x px, .Name y py, .Name z pz] kt pt] (.Tuple [a, b, c] k2 pt2) pos) (dPar3 i j k fl) := by
  refine PS.imp (ps_par3 hc hN hi hj hk hij hik hjk hx hy hz ha hw hs) fun σ H E h => ?_
  obtain ⟨ρ, F, a, s, e, q⟩ := h
  refine bndLE s e q.exc fun rs ρ1 p us H1 F1 Fd e1 P1 => ?_
  cases et : takeRs ρ1 rs with
  | none => rw [et] at e1; cases e1
  | some z =>
    obtain ⟨es, ρ2⟩ := z
    rw [et] at e1
    simp only [Option.bind_some] at e1
    obtain ⟨F2, Fe, s2, r2, dj2, k1, k2⟩ := takeRs_ok P1.s P1.r P1.dj et
    split at e1
    · rename_i c d e
      cases e1
      obtain ⟨v, w, u, Fa, Fb, Fc, rfl, r1, r1', r1'', n, n', n'', e0⟩ := r2.three
      refine ⟨v, w, u, rfl, ?_⟩
      obtain ⟨F3, s3, k3⟩ := s2.store (i := i) r1 fun x f g => dj2 x ((e0 x).mpr (.inl f)) g
      have r1w : Disj Fb F3 := fun x f g => (k3 x g).elim (fun z => n x z f) fun z => dj2 x ((e0 x).mpr (.inr (.inl f))) z
      obtain ⟨F4, s4, k4⟩ := s3.store (i := j) r1' r1w
      have r1u : Disj Fc F4 := fun x f g => (k4 x g).elim (fun z => n'' x z f) fun z => (k3 x z).elim (fun z => n' x z f) fun z => dj2 x ((e0 x).mpr (.inr (.inr f))) z
      obtain ⟨F5, s5, k5⟩ := s4.store (i := k) r1'' r1u
      refine q _ H1 F5 ⟨s5, P1.fr.less fun x z => ?_, by simp, fun m hm => ?_⟩
      · have all : ∀ x, Fa x ∨ Fb x ∨ Fc x → orF F1 Fd x := fun x z => k2 x ((e0 x).mpr z)
        rcases k5 x z with z | z
        · exact all x (.inr (.inr z))
        · rcases k4 x z with z | z
          · exact all x (.inr (.inl z))
          · rcases k3 x z with z | z
            · exact all x (.inl z)
            · exact .inl (k1 x z)
      · rw [List.getElem?_set_ne (show k ≠ m from fun z => hpk (by rw [z]; exact hm)), List.getElem?_set_ne (show j ≠ m from fun z => hpj (by rw [z]; exact hm)), List.getElem?_set_ne (show i ≠ m from fun z => hpi (by rw [z]; exact hm))]
    · cases e1

/-! ### dict([(k, v), ..]), the keys apart -/
omit [Tbs] in
def pairsD : List D → Option (List (Key × D))
  | [] => some []
  | .tup [k, v] :: r => match k.key, pairsD r with
    | some k, some kvs => if (kvs.any fun kv => decide (kv.1 = k)) = true then none else some ((k, v) :: kvs)
    | _, _ => none
  | _ => none
omit [Tbs] in
def dDict (fl : EvL) : Ev := bndL .exc fl fun rs ρ p => match takeRs ρ rs with
  | some ([.lst xs], ρ') => if xs.length ≤ LIM then (pairsD xs).map fun kvs => .ok (.own (.dic kvs)) ρ' p else none
  | _ => none
theorem pairs_rep {K : PySem.W.Frag} {H : Hp} : ∀ {vs : List V} {xs : List D} {kvs : List (Key × D)} {G : FP}, RepL K H vs xs G → pairsD xs = some kvs →
    ∃ (ps : List Addr) (ws : List (Key × V)), vs = ps.map V.ref ∧ Paired (fun p kv => SqT K H p [kV kv.1, kv.2]) ps ws ∧ RepK K H ws kvs G ∧ (kvs.map (·.1)).Nodup
  | _, [], kvs, _, .nil e0, e => by
    cases e
    exact ⟨[], [], rfl, .nil, .nil e0, List.nodup_nil⟩
  | v :: vs, d :: r, kvs, G, .cons (F1 := F1) (F2 := F2) r1 s n e0, e => by
    unfold pairsD at e
    split at e
    · rename_i h; cases h
    · rename_i k x r' hh
      cases hh
      split at e
      · rename_i k' kvs' hk hp
        split at e
        · cases e
        · rename_i hc
          cases e
          obtain ⟨ps, ws, rfl, h1, h2, h3⟩ := pairs_rep s hp
          obtain ⟨a, us, rfl, t1, t2, t3⟩ := r1.tup_inv
          obtain ⟨vk, vx, Fa, Fb, rfl, g1, g2, g3, g4⟩ := t3.two
          have ek := g1.key hk
          subst ek
          have ik : k.imm = true := by cases k <;> simp [D.key] at hk <;> rfl
          have nFa : ∀ a, ¬ Fa a := g1.imm ik
          refine ⟨a :: ps, (k', vx) :: ws, rfl, .cons t1 h1, .cons g2 h2 (fun x f g => n x ((g4 x).mpr (.inr f)) g) fun x => ?_, ?_⟩
          · rw [e0, g4]; simp [nFa]
          · refine List.nodup_cons.mpr ⟨fun z => hc (by obtain ⟨q, hq, e⟩ := List.mem_map.mp z; exact List.any_eq_true.mpr ⟨q, hq, decide_eq_true e⟩), h3⟩
      · cases e
    · cases e
theorem de_dict {e : Expr} {x : Str} {p : Pos} (hc : X.calm = true) (hg : Gl X x) (hm : X.mg x = none) (hv : bootBuiltins x = some (.type "dict")) (ha : DL X W [e] fl) (hn : x ≠ "__name__" := by decide) (hdb : (x == ("__debug__" : Str)) = false := by decide)
    (he : starEach [e] X.env = (false, eval e X.env) :: starEach [] X.env := by rfl) (hpl : (backTo pos (starEach [] X.env)).any (·.1) = false := by rfl) : DE X W (.Call (.Name x p) [e] [] pos) (dDict fl) := by
  refine PE.imp (pe_callTy (call_dictP hc) hg hm hv ha hn hdb he hpl) fun σ H Q h => ?_
  obtain ⟨ρ, F, a, s, e, q⟩ := h
  refine bndLE s e q.exc fun rs ρ1 p us H1 F1 Fd e1 P1 => ?_
  split at e1
  · rename_i xs ρ' et
    split at e1
    · rename_i hlen
      cases ep : pairsD xs with
      | none => rw [ep] at e1; cases e1
      | some kvs =>
        rw [ep] at e1; cases e1
        obtain ⟨F2, Fe, s2, r2, dj2, k1, k2⟩ := takeRs_ok P1.s P1.r P1.dj et
        obtain ⟨v, Fv, rfl, rv, k3⟩ : ∃ v Fv, us = [v] ∧ Rep X.K H1 v (.lst xs) Fv ∧ ∀ x, Fv x → Fe x := by
          cases r2 with | cons r t _ e0 => cases t; exact ⟨_, _, rfl, r, fun x f => (e0 x).mpr (.inl f)⟩
        obtain ⟨a, vs, G, rfl, h1, h2, h3, h4, h5⟩ := rv.lst_inv
        obtain ⟨ps, ws, rfl, m1, m2, m3⟩ := pairs_rep h3 ep
        refine ⟨a, ps, ws, rfl, SqL.of h1, m1, fun p hp => ?_⟩
        rw [mergeK_nodup ws [] (fun _ _ => rfl) (by rw [m2.keys]; exact m3)]
        have sm : Sm H1 (upd H1 p (.dK ([] ++ ws))) := Sm.new hp
        have np : ¬ G p := fun z => dom_ne h3.dom p z (.of hp)
        have np2 : ¬ F2 p := fun z => dom_ne s2.dom p z (.of hp)
        have gF : ∀ x, G x → Fe x := fun x g => k3 x ((h5 x).mpr (.inr g))
        refine q (.ref p) _ F2 (fun x => x = p ∨ G x) ⟨s2.same sm, .dic upd_same (m2.same sm) np fun _ => Iff.rfl, ?_, ?_, fun z => (P1.pu z).trans sm⟩
        · rintro x (z | z) w
          · exact np2 (z ▸ w)
          · exact dj2 x (gF x z) w
        · refine (P1.fr.trans (Fr.of_same sm (F' := orF F2 fun x => x = p ∨ G x) fun x z => ?_))
          rcases z with z | z | z
          · exact .inl (.inl (k1 x z))
          · exact .inr (z ▸ hp)
          · exact .inl (k2 x (gF x z))
    · cases e1
  · cases e1
end
end PD
end
section
set_option Elab.async false
set_option linter.all false
set_option maxRecDepth 100000
set_option maxHeartbeats 4000000
/-! raise X(); small helps for derivations. -/
namespace PD
open PySem PySem.Spec PyProof.Rows L2
variable [Tbs]
omit [Tbs] in
/-- an own exception class, ready to be raised -/
structure ExcC (K : PySem.W.Frag) (mg : Str → Option Value) (x : Str) (C : Addr) : Prop where
  q : PySem.W.excIn K C He.veBase "ValueError.__new__" = true
  g : mg x = some (.ref C)
  k : PySem.W.keepIn K (.ref C) = true
  s : PySem.W.subIn K (.ref C) (.type "BaseException") = some true
  t : PySem.W.typeIn K (.ref C) = some (.type "type")
section
variable {X : Cx} {W : WX} {prot : List Nat}
theorem pmk_own0 {C : Addr} {x : Str} {p pos : Pos} (T : ExcC X.K X.mg x C) (hg : Gl X x) (hdb : (x == ("__debug__" : Str)) = false := by decide) :
    PMk X (.Call (.Name x p) [] [] pos) (fun _ H Q => Q (.ref C) none H) := by
  intro pins s σ H Q I h
  refine wpAny_Call_Name_kw (ld_glob I hg T.g ?_ hdb)
  refine PySem.W.callWith_K0 I.kIn T.k ?_
  show wpAny _ _ (call (.ref C) []) _ _ _
  obtain ⟨bm, N, nm, qn, bs, hdct, sn, sub, ab, col, dd, k0, k1, k2, k3, k5, mN, hC, hN, hni, T'⟩ := exc_obj I.kIn T.q
  refine wpAny_call_exc_subT PySem.F.excBase_ValueError T' hC hN hni (fun h' e hm => ?_) (by show 0 ≤ sizeLine; exact Nat.zero_le _)
  exact mk_of I hm (raises_own T.s T.t) h (I.hok.gone hm.new)
omit [Tbs] in
def dRaise (c : Value) : Sv := fun ρ => some (.exc c ρ)
theorem ds_raise0 {C : Addr} {x : Str} {p pos pos' : Pos} (hc : X.calm = true) (tk : Takes X W) (T : ExcC X.K X.mg x C) (hg : Gl X x) (hdb : (x == ("__debug__" : Str)) = false := by decide) :
    DS X W prot (.Raise (some (.Call (.Name x p) [] [] pos)) none pos') (dRaise (.ref C)) := by
  refine PS.imp (ps_raise hc tk (pmk_own0 T hg hdb)) fun σ H E q => ?_
  obtain ⟨ρ, F, a, s, e, q⟩ := q
  cases e
  exact q σ H F ⟨s, Fr.refl H F, Prot.refl⟩
theorem not_but {n i : Nat} {vs : List Nat} (h : i ∈ vs) : i ∉ butSlots n vs := fun z => (mem_but.mp z).2 h
theorem takes_w0 : Takes X W0 := fun _ _ z => by
  obtain ⟨_, _, _, _, _, _, _, _, _, _, _, _, _, _, _, _, z⟩ := z
  exact z.elim
end
theorem _root_.L2.Room.u65 {k : Nat} {A : Around} (r : Room k A) : A.units + 65 < cLine := by have := r.un; omega
theorem _root_.L2.Room.u1 {k : Nat} {A : Around} (r : Room k A) : A.units + 1 < cLine := by have := r.un; omega
end PD
end
section
set_option Elab.async false
set_option linter.all false
set_option maxRecDepth 100000
set_option maxHeartbeats 4000000
/-! f(lambda: e), f a def that tries what it got: what it tells, or that the exception came. -/
namespace PD
open PySem PySem.Spec PyProof.Rows L2
variable [Tbs]
omit [Tbs] in
/-- of the try: (s1, what was told), or (s2,) -/
def TTry (K : PySem.W.Frag) (C : Addr) (s1 s2 : Str) : (XK → Hp → VK → Prop) → Hp → VK → Prop := fun tl H Q =>
  tl (fun cls _ H' => PySem.W.exmOne K cls (.ref C) = some true ∧ ∀ p, H' p = none → Q (.ref p) (upd H' p (.tup [.str s2]))) H fun v H1 => [V.str s1, v].length ≤ sizeLine ∧ ∀ p, H1 p = none → Q (.ref p) (upd H1 p (.tup [.str s1, v]))
omit [Tbs] in
theorem try_gives {X : Cx} {Ng : List Str} {x a e q s1 s2 : Str} {sg : Scope} {g C : Addr} {cdg : Value} {j1 j2 k1 k2 : Nat} {p1 p2 p3 p4 p5 p6 p7 p8 p9 p10 p11 : Pos} (hge : sg.names.lookup e = some .globalImplicit) (hme : X.mg e = some (.ref C)) (hde : (e == ("__debug__" : Str)) = false)
    (h0 : ∀ f : Addr, (L2.start Ng [V.ref f])[0]? = some (some (V.ref f))) :
    LamX.GivesTo X Ng x sg g cdg [.Try [.Return (some (.Tuple [.Constant (.str s1) j1 p1, .Call (.Name a p2) [] [] p3] k1 p4)) p5] [.ExceptHandler (some (.Name e p6)) none [.Return (some (.Tuple [.Constant (.str s2) j2 p7] k2 p8)) p9] p10] [] [] p11] a q (TTry X.K C s1 s2) := by
  intro f c' s H Q tl act hc h
  generalize hY : (cxOf C8.CX0 X.prog X.w X.K X.mg X.base Ng x sg g cdg X.A X.stack s H C8.E0) = Y at act ⊢
  have y1 : Y.nox.stack = Y.nox.env :: Y.nox.outer := by rw [← hY]; rfl
  have y2 : Y.nox.env.frame = some Y.nox.env.locals := by rw [← hY]; rfl
  have y3 : Gl Y.nox e := by rw [← hY]; exact hge
  have y4 : Y.nox.mg e = some (.ref C) := by rw [← hY]; exact hme
  have y5 : Y.nox.K = X.K := by rw [← hY]; rfl
  refine ⟨_, pss_one (ps_try_only (c := .ref C) (Wout := fun _ _ _ _ => False)
    (tb := fun W D σ H => ∃ Ech : XK, (∀ cls d σ' H', Ech cls d H' → W cls d σ' H') ∧ σ[0]? = some (some (.ref f)) ∧ H c' = some (LamX.CodeO c' q) ∧ tl Ech H fun v H1 => [V.str s1, v].length ≤ sizeLine ∧ ∀ p, H1 p = none → D.rt (.ref p) (upd H1 p (.tup [.str s1, v])))
    y1 y2 ⟨y3, hde, .inl y4⟩ LamX.takes0 (fun W pn xe tk _ => ?_) (fun a oe cls d pn _ _ => pss_one (ps_ret (pe_tup (pa_cons pe_str pa_nil))))), ?_⟩
  · refine ⟨fun pins s' σ H' D I hh => ?_⟩
    obtain ⟨Ech, hW, h1, h2, h3⟩ := hh
    have b1 := pss_one (ps_ret (pos := p5) (pe_tup (x1 := k1) (pos := p4) (pa_cons (show PE (Y.tr pn xe) (.Constant (.str s1) j1 p1) (tC (.str s1)) from pe_str) (pa_cons (act W pn xe Ech p2 p3 tk hW) pa_nil))))
    exact b1.run pins s' σ H' D I ⟨h1, h2, h3⟩
  · refine ⟨fun cls _ H' => PySem.W.exmOne X.K cls (.ref C) = some true ∧ ∀ p, H' p = none → Q (.ref p) (upd H' p (.tup [.str s2])), ?_, h0 f, hc, h⟩
    rintro cls d σ' H' ⟨e1, e2⟩
    refine ⟨true, by rw [y5]; exact e1, fun _ a _ => ⟨by show 1 ≤ sizeLine; decide, e2⟩, fun z => nomatch z⟩
omit [Tbs] in
/-- what the lambda gives, or the exception c -/
def dTry (s1 s2 : Str) (c : Value) (fb : Ev) : Ev := fun ρ => match fb ρ with
  | some (.ok r ρ1 p) => (takeR ρ1 r).map fun z => .ok (.own (.tup [.str s1, z.1])) z.2 false
  | some (.exc c' ρ1) => if c' = c then some (.ok (.own (.tup [.str s2])) ρ1 false) else none
  | none => none
omit [Tbs] in
/-- a lambda's name, made in a def of name q -/
def lamQ (q : Str) : Str := q ++ "<lambda>"
omit [Tbs] in
theorem cx_qual {CX : CXT} {P : Program} {w : World} {K : PySem.W.Frag} {mg : Str → Option Value} {base : Heap} {N : List Str} {q : Str} {sc : Scope} {f : Addr} {cd : Value} {A : Around} {outer : List Env} {s : Shared} {H : Hp} {E : XK} : (cxOf CX P w K mg base N q sc f cd A outer s H E).env.qual = q ++ ".<locals>." := rfl
section
variable {X : Cx} {W : WX}
theorem de_try {st : Stmt} {fdh : FuncData} {x a e s1 s2 : Str} {g C c P : Addr} {k : Nat} {params : Arguments} {body : Expr} {scope : Scope} {fb : Ev} {p lpos pos : Pos} {j1 j2 k1 k2 : Nat} {p1 p2 p3 p4 p5 p6 p7 p8 p9 p10 p11 : Pos}
    (F : FunP X.K x st g fdh) (hb : Binds X.K fdh [a] []) (hg : Gl X x) (hm : X.mg x = some (.ref g)) (Sg : FnScope [a] [a] (defScope st)) (hva : Vis (defScope st) a)
    (hbd : defBody st = [.Try [.Return (some (.Tuple [.Constant (.str s1) j1 p1, .Call (.Name a p2) [] [] p3] k1 p4)) p5] [.ExceptHandler (some (.Name e p6)) none [.Return (some (.Tuple [.Constant (.str s2) j2 p7] k2 p8)) p9] p10] [] [] p11])
    (hge : (defScope st).names.lookup e = some .globalImplicit) (hme : X.mg e = some (.ref C)) (hde : (e == ("__debug__" : Str)) = false) (hx : PySem.W.exmOne X.K (.ref C) (.ref C) = some true)
    (TB : LamX.TabB X.base X.mg c P) (hcode : X.env.code = .ref c) {q : Str} (hq : X.env.qual = q) (hmT : (P, lamQ q) ∈ Tbs.T) (hu : ∀ p ∈ Tbs.T, p.1 = P → p.2 = lamQ q) (hr : Room (k + 2) X.A) (L : LamX.LamS X.env.scope scope) (hdef : defaultsOf params X.env = ([], []))
    (hbind : ∀ (q : Str) (cl : List (Str × Addr)) (pm cv ctv : Value), bindArgs (PySem.W.kla_fn "<lambda>" q params body scope cl pm cv ctv) ⟨[], []⟩ = pure [])
    (hbody : ∀ (A : Around) (outer : List Env) (s : Shared) (H : Hp) (E : XK) (f c' : Addr), Room k (A.deeper (LamX.lamEnv X scope s.heap.objs.size f c')) → DE (LamX.lamCx X A outer s H E scope f c') (fun cls d _ H' => E cls d H') body fb)
    (hdb : (x == ("__debug__" : Str)) = false := by decide) (hd : (a == ("__debug__" : Str)) = false := by decide) (hcd : (a == ("__classdict__" : Str)) = false := by decide) :
    DE X W (.Call (.Name x p) [.Lambda params body scope lpos] [] pos) (dTry s1 s2 (.ref C) fb) := by
  subst hq
  obtain ⟨oc, od, dV, kV, doc, pm, an, cdv, ct, osl, e1, lk, hcd2, _, _⟩ := F.ex
  subst e1
  rw [hbd] at lk hb
  refine PE.imp (LamX.pe_lamcall (t := fun E => wpE X.K (fun cls d _ H' => E cls d H') fb) hg hm F.kp lk hcd2 hb Sg rfl hva (try_gives hge hme hde fun f => rfl) TB hcode hmT hu hr L hdef hbind hbody hdb hd hcd) fun σ H Q h => ?_
  obtain ⟨ρ, F, ans, s, e, q⟩ := h
  refine ⟨s.tb, fun H1 eN T1 => ?_⟩
  have sm : Sm H H1 := ⟨fun b o h nt => eN b o h (by rintro ps rfl; cases nt), fun _ => T1⟩
  unfold dTry at e
  cases ef : fb ρ with
  | none => rw [ef] at e; cases e
  | some a0 =>
    rw [ef] at e
    refine ⟨ρ, F, a0, s.same sm, ef, ?_⟩
    cases a0 with
    | ok r ρ1 p =>
      intro v H' F' Fd P1
      refine ⟨by show 2 ≤ sizeLine; decide, fun l hl => ?_⟩
      have e : (takeR ρ1 r).map (fun z => Ans.ok (.own (.tup [.str s1, z.1])) z.2 false) = some ans := e
      cases et : takeR ρ1 r with
      | none => rw [et] at e; cases e
      | some z =>
        obtain ⟨d, ρ2⟩ := z
        rw [et] at e; cases e
        obtain ⟨F2, Fe, s2, r2, dj2, k1, k2⟩ := takeR_ok P1.s P1.r P1.dj et
        have sm2 : Sm H' (upd H' l (.tup [.str s1, v])) := Sm.new hl
        refine q (.ref l) _ F2 Fe ⟨s2.same sm2, ?_, dj2, ?_, fun z => nomatch z⟩
        · exact rep_newT hl (by show 2 ≤ sizeLine; decide) (.cons (F1 := fun _ => False) (F2 := Fe) (.str _ fun _ z => z) (.cons (F2 := fun _ => False) r2 (.nil fun _ z => z) (fun _ _ z => z) fun x => by simp) (fun _ z => z.elim) fun x => by simp)
        · refine ((Fr.of_same sm fun x z => .inl z).trans ((P1.fr.less fun x z => z.elim (fun z => .inl (k1 x z)) (k2 x)).trans (Fr.of_same sm2 fun x z => .inl z)))
    | exc c' ρ1 =>
      intro H' F' P1
      have e : (if c' = Value.ref C then some (Ans.ok (.own (.tup [.str s2])) ρ1 false) else none) = some ans := e
      split at e
      · rename_i hc
        cases e
        refine ⟨by rw [hc]; exact hx, fun l hl => ?_⟩
        have sm2 : Sm H' (upd H' l (.tup [.str s2])) := Sm.new hl
        refine q (.ref l) _ F' (fun _ => False) ⟨P1.s.same sm2, ?_, fun _ z => z.elim, ?_, fun z => nomatch z⟩
        · exact rep_newT hl (by show 1 ≤ sizeLine; decide) (.cons (F1 := fun _ => False) (F2 := fun _ => False) (.str _ fun _ z => z) (.nil fun _ z => z) (fun _ z => z.elim) fun x => by simp)
        · refine ((Fr.of_same sm fun x z => .inl z).trans (P1.fr.trans (Fr.of_same sm2 fun x z => ?_)))
          exact z.elim .inl False.elim
      · cases e
end
end PD
end
section
set_option Elab.async false
set_option linter.all false
set_option maxRecDepth 100000
set_option maxHeartbeats 4000000
/-! The end of a law: its def is called by the claim's caller; nothing is being printed there. -/
namespace PD
open PySem PySem.Spec PyProof.Rows L2
/-- what is tracked ahead of the law's call: the script, the tables -/
def entryH (K : PySem.W.Frag) (tabs : List Addr) (a : Addr) (vs : List Value) (ns : List Int) : Hp := fun b =>
  if b ∈ tabs then some (.tbl #[]) else if b = a ∧ K.lookup a = none then some (.frz { cls := .type "list", data := .seq vs.toArray } (.lst (ns.map V.int))) else none
section
variable {P : Program} {w : World} {K : PySem.W.Frag} {mg mb : Str → Option Value} {k : Nat} {fa a : Addr} {cs : List (Addr × Addr)} {fd : FuncData} {x : Str} {sp : Sp} {s : Shared} {vs : List Value} {ns : List Int}
theorem entry_some {tabs : List Addr} {b : Addr} {u : HO} (h : entryH K tabs a vs ns b = some u) :
    (b ∈ tabs ∧ u = .tbl #[]) ∨ (b ∉ tabs ∧ b = a ∧ K.lookup a = none ∧ u = .frz { cls := .type "list", data := .seq vs.toArray } (.lst (ns.map V.int))) := by
  unfold entryH at h
  split at h
  · rename_i hb
    cases h
    exact .inl ⟨hb, rfl⟩
  · rename_i hb
    split at h
    · rename_i hc
      cases h
      exact .inr ⟨hb, hc.1, hc.2, rfl⟩
    · cases h
theorem law_callG (KX : K.In s.heap) (hns : s.heap.Ns mainGlobals mg) (hb : s.heap.Ns builtinsNs mb) (hbb : ∀ x : Str, x ≠ "__name__" → mb x = bootBuiltins x) (hlim : s.heap.NoLimit) (hg : s.gens = #[])
    (hT : ∀ p ∈ cs, s.heap.get? p.2 = some { cls := .none, data := .fields #[] }) (nT : ∀ p ∈ cs, K.lookup p.2 = none) (C : ∀ p ∈ cs, PySem.W.CodeHd s.heap p.1 p.2)
    (hbm : ∃ (bm : Addr) (ob : Obj), mg "__builtins__" = some (.ref bm) ∧ bm ≠ builtinsNs ∧ s.heap.get? bm = some ob ∧ ob.cls = .type "module" ∧ ob.dict = some builtinsNs ∧ ob.data = .plain)
    (ha : s.heap.get? a = some { cls := .type "list", data := .seq vs.toArray }) (hi : IntsAre vs ns) (hl : ns.length ≤ sizeLine) (hr : Room k callerA)
    (F : ∀ base : Heap, K.In base → base.Ns mainGlobals mg → (∀ p ∈ cs, LamX.TabB base mg p.1 p.2) → FnG P w K mg base k true fa fd [x] sp) (bind : ∀ (s : Shared) (u : Value), BindsTo s fd ⟨[u], []⟩ [(x, u)])
    (reads : ∀ H : Hp, (∀ p ∈ cs, H p.2 = some (.tbl #[])) → FzL K H a (ns.map V.int) → sp [.ref a] H (fun v _ => v = .bl true) fun _ _ _ => False) :
    codeAny (model P w) callerA (.call (.ref fa) ⟨[.ref a], []⟩) (fun r s' => r = .ok (.ret (.bool true)) ∧ OldK s.heap s'.heap ∧ s'.os = s.os ∧ AllBare s'.gens) s := by
  have nl := hi.length
  generalize ht : cs.map Prod.snd = tabs
  have tabAt : ∀ b ∈ tabs, s.heap.get? b = some { cls := .none, data := .fields #[] } ∧ K.lookup b = none := by
    intro b hb
    rw [← ht] at hb
    obtain ⟨p, hp, rfl⟩ := List.mem_map.mp hb
    exact ⟨hT p hp, nT p hp⟩
  have aN : a ∉ tabs := fun z => by
    have q := (tabAt a z).1
    rw [ha] at q
    cases q
  generalize hH : entryH K tabs a vs ns = H
  have someH : ∀ {b u}, H b = some u → (b ∈ tabs ∧ u = .tbl #[]) ∨ (b ∉ tabs ∧ b = a ∧ K.lookup a = none ∧ u = .frz { cls := .type "list", data := .seq vs.toArray } (.lst (ns.map V.int))) := fun {b u} e => by
    rw [← hH] at e
    exact entry_some e
  have tblH : ∀ p ∈ cs, H p.2 = some (.tbl #[]) := fun p hp => by
    have : p.2 ∈ tabs := by rw [← ht]; exact List.mem_map.mpr ⟨p, hp, rfl⟩
    rw [← hH]
    exact if_pos this
  have frzH : FzL K H a (ns.map V.int) := by
    cases q : K.lookup a with
    | none => exact .inl ⟨_, by rw [← hH]; exact (if_neg aN).trans (if_pos ⟨rfl, q⟩)⟩
    | some o =>
      have e := KX a o q
      rw [ha] at e
      cases e
      exact .inr ⟨_, vs.toArray, _, q, rfl, rfl, rfl, by rw [List.size_toArray]; omega, by simpa using vals_ints hi⟩
  have hok : HOk P w H s.heap := fun b u e => by
    rcases someH e with ⟨h1, rfl⟩ | ⟨_, rfl, _, rfl⟩
    · exact (tabAt b h1).1
    · exact ⟨ha, by rw [List.length_map]; exact hl, vs, _, vals_ints hi, ha⟩
  -- things of other forms are not tracked
  have plain : ∀ {b : Addr} {o : Obj}, s.heap.get? b = some o → (∀ v n, o.data ≠ .seq v n) → o.data ≠ .fields #[] → H b = none := fun {b o} e n1 n2 => by
    cases q : H b with
    | none => rfl
    | some u =>
      rcases someH q with ⟨h1, _⟩ | ⟨_, rfl, _, _⟩
      · rw [(tabAt b h1).1] at e; cases e
        exact absurd rfl n2
      · rw [ha] at e; cases e
        exact absurd rfl (n1 _ _)
  have inB : ∀ {b : Addr} {o : Obj}, s.heap.get? b = some o → (∀ v n, o.data ≠ .seq v n) → o.data ≠ .fields #[] → (hidT s.heap H).get? b = some o := fun e n1 n2 => hidT_get e (plain e n1 n2)
  have nsB : ∀ {b : Addr} {m : Str → Option Value}, s.heap.Ns b m → (hidT s.heap H).Ns b m := fun {b m} ⟨o, es, ep, e, d, r⟩ =>
    ⟨o, es, ep, inB e (fun v n z => by rw [d] at z; cases z) (fun z => by rw [d] at z; cases z), d, r⟩
  have KB : K.In (hidT s.heap H) := fun b o e => hidT_get (KX b o e) (by
    cases q : H b with
    | none => rfl
    | some u =>
      rcases someH q with ⟨h1, _⟩ | ⟨_, rfl, h2, _⟩
      · rw [(tabAt b h1).2] at e; cases e
      · rw [h2] at e; cases e)
  have md : Mod K mg (hidT s.heap H) := ⟨KB, nsB hns, ⟨mb, nsB hb, hbb⟩, by
    obtain ⟨mc, h1, h2⟩ := hlim
    exact ⟨mc, nsB h1, h2⟩⟩
  have tabB : ∀ p ∈ cs, LamX.TabB (hidT s.heap H) mg p.1 p.2 := by
    intro p hp
    have hp2 := hT p hp
    obtain ⟨om, em, epm, e0, d0, _⟩ := id hns
    have n0 : mainGlobals ≠ p.2 := fun z => by
      rw [z, hp2] at e0; cases e0; cases d0
    obtain ⟨bm, ob, b1, b2, b3, b4, b5, b6⟩ := hbm
    refine ⟨?_, ⟨bm, ob, b1, b2, ?_, ?_, inB b3 (fun v n z => ?_) (fun z => ?_), b4, b5, b6⟩, n0⟩
    · obtain ⟨o, us, f1, f2, f3, f4, f5, f6, f7, c1, c0, c2, c3, c4⟩ := C p hp
      refine ⟨o, us, f1, f2, f3, f4, f5, f6, f7, inB c1 (fun v n z => ?_) (fun z => ?_), c0, c2, c3, c4⟩
      · rw [c2] at z; cases z
      · rw [c2] at z; cases z
        simp at c3
    · intro z
      rw [z, e0] at b3; cases b3
      rw [d0] at b6; cases b6
    · intro z
      rw [z, hp2] at b3; cases b3
      cases b6
    · rw [b6] at z; cases z
    · rw [b6] at z; cases z
  have e0 : Env0 P w K mg (hidT s.heap H) callerA [] s H :=
    { frames := rfl, mod := md, bs := fun b o e => of_hidT e, bsz := Nat.le_of_eq (hidT_size _ _), funs := trivial, frf := fun b (hb : b ∈ ([] : List Addr)) => (nomatch hb), hok := hok, bare := .of_eq hg }
  refine codeAny_mono ((F _ KB (nsB hns) tabB).run callerA [] s H ⟨[.ref a], []⟩ [.ref a] [.ref a] _ _ hr (fun _ => rfl) e0 (bind s (.ref a)) (.cons rfl .nil) (reads H tblH frzH)) fun r s' h => ?_
  cases r with
  | error e =>
    obtain ⟨_, _, _, _, _, _, _, _, _, _, _, _, z⟩ := h
    exact z.elim
  | ok fl =>
    cases fl with
    | next => exact False.elim h
    | brk => exact False.elim h
    | cont => exact False.elim h
    | ret u =>
      obtain ⟨v, H', os, bare, un, hok', rv, rfl⟩ := h
      have eu : u = Value.bool true := rv
      subst eu
      have old : ∀ b o, b ∉ tabs → s.heap.get? b = some o → s'.heap.get? b = some o := fun b o nb e => by
        cases q : H b with
        | none => exact un.keep b o e q (fun z => by cases z) (fun z => by cases z)
        | some u =>
          rcases someH q with ⟨h1, _⟩ | ⟨_, rfl, _, rfl⟩
          · exact absurd h1 nb
          · have f1 := hok _ _ q
            have f2 := hok' _ _ (un.frzs _ _ _ q)
            have g1 := f1.1
            rw [e] at g1; cases g1
            exact f2.1
      have grown : ∀ p ∈ cs, ∃ more : Array Value, s'.heap.get? p.2 = some { cls := .none, data := .fields more } := fun p hp => by
        obtain ⟨more, z⟩ := un.tbls p.2 #[] (tblH p hp)
        exact ⟨_, hok' p.2 _ z⟩
      have back : ∀ b ∈ tabs, ∃ p ∈ cs, p.2 = b := fun b hb => by
        rw [← ht] at hb
        obtain ⟨p, hp, e⟩ := List.mem_map.mp hb
        exact ⟨p, hp, e⟩
      refine ⟨rfl, ⟨fun b o e => ?_, fun b o e => ?_⟩, os, bare⟩
      · by_cases nb : b ∈ tabs
        · obtain ⟨p, hp, rfl⟩ := back b nb
          obtain ⟨more, hm⟩ := grown p hp
          rw [hT p hp] at e
          cases e
          exact .inr (.inl ⟨((C p hp).tab (hT p hp)).isCodeTable, rfl, #[], more, rfl, by rw [Array.empty_append]; exact hm⟩)
        · exact .inl (old b o nb e)
      · by_cases nb : b ∈ tabs
        · obtain ⟨p, hp, rfl⟩ := back b nb
          obtain ⟨more, hm⟩ := grown p hp
          exact ⟨_, hm⟩
        · exact ⟨o, old b o nb e⟩
end
/-- the walk's end, by what the head's Hook tells -/
theorem walkG {l : PySem.W.OpenLaw} {n k : Nat} {q : Program} {loose : List Str} {XP : (Str → Option Value) → Heap → Prop} {YP : World → Heap → Prop} {d : DefRec} {x : Str}
    (hn : l.most = some n) (hn2 : n ≤ sizeLine) (hdf : d.params.defaults = []) (hr : Room k callerA)
    (F : ∀ (w : World) (mg : Str → Option Value) (fa : Addr) (h : Heap), YP w h → h.Ns mainGlobals mg → mg d.name = some (.ref fa) → ∃ (K : PySem.W.Frag) (fd : FuncData) (cs : List (Addr × Addr)) (sp : Sp), K.In h ∧
      (∀ p ∈ cs, h.get? p.2 = some { cls := .none, data := .fields #[] }) ∧ (∀ p ∈ cs, K.lookup p.2 = none) ∧ (∀ p ∈ cs, PySem.W.CodeHd h p.1 p.2) ∧ (∀ (s : Shared) (u : Value), BindsTo s fd ⟨[u], []⟩ [(x, u)]) ∧
      (∀ (H : Hp) (a : Addr) (ns : List Int), ns.length ≤ n → (∀ z ∈ ns, Builtin.Int.intBits z ≤ 1048576) → (∀ p ∈ cs, H p.2 = some (.tbl #[])) → FzL K H a (ns.map V.int) → sp [.ref a] H (fun v _ => v = .bl true) fun _ _ _ => False) ∧
      ∀ base : Heap, K.In base → base.Ns mainGlobals mg → (∀ p ∈ cs, LamX.TabB base mg p.1 p.2) → FnG l.prog w K mg base k true fa fd [x] sp) :
    PySem.W.WalkO q loose XP YP l.row.toRowW d [] (fun f vs => PySem.call f vs) := by
  refine Att.attach_callB hn hdf fun w s₀ s₁ mg mb fa o pm cd doc a vs ns G Y ho hd hcd hmg hobj hints hlen hbits hg => ?_
  obtain ⟨K, fd, cs, sp, KX, c1, c2, c3, c4, c5, c6⟩ := F w mg fa _ Y G.T.g hmg
  exact law_callG KX G.T.g G.T.b G.T.builtins G.T.nolimit hg c1 c2 c3 G.T.bmain hobj hints (Nat.le_trans hlen hn2) hr c6 c4 fun H hH hS => c5 H a ns hlen hbits hH hS
end PD
end
section
set_option Elab.async false
set_option linter.all false
set_option maxRecDepth 100000
noncomputable section
/-! What trees answer, computed by simp: an equation for each construct; rules for loops. -/
namespace PD
open L2
section
variable (f fa fb fe : Ev) (fl : EvL) (fi : EvI) (t ta tb : EvB) (g h : Sv) (ρ : Rho) (d : D) (i j k n : Nat)
@[simp] theorem ev_bnd {β : Type} (x : PySem.Value → Rho → β) (kk : Res → Rho → Bool → Option β) : bnd x f kk ρ = match f ρ with | some (.ok r ρ' p) => kk r ρ' p | some (.exc c ρ') => some (x c ρ') | none => none := (rfl)
@[simp] theorem ev_bndL {β : Type} (x : PySem.Value → Rho → β) (kk : List Res → Rho → Bool → Option β) : bndL x fl kk ρ = match fl ρ with | some (.ok r ρ' p) => kk r ρ' p | some (.exc c ρ') => some (x c ρ') | none => none := (rfl)
@[simp] theorem ev_bndB {β : Type} (x : PySem.Value → Rho → β) (kk : Bool → Rho → Bool → Option β) : bndB x t kk ρ = match t ρ with | some (.ok r ρ' p) => kk r ρ' p | some (.exc c ρ') => some (x c ρ') | none => none := (rfl)
@[simp] theorem ev_bndI {β : Type} (x : PySem.Value → Rho → β) (kk : ItR → Rho → Bool → Option β) : bndI x fi kk ρ = match fi ρ with | some (.ok r ρ' p) => kk r ρ' p | some (.exc c ρ') => some (x c ρ') | none => none := (rfl)
@[simp] theorem ev_dSeq : dSeq g h ρ = match g ρ with | some (.nx ρ') => h ρ' | o => o := (rfl)
@[simp] theorem ev_dRet : dRet f ρ = bnd .exc f (fun r ρ p => (takeR ρ r).map fun z => Out.ret z.1 z.2) ρ := (rfl)
@[simp] theorem ev_dAsg (tg : D → Rho → Option Rho) : dAsg tg f ρ = bnd .exc f (fun r ρ p => (takeR ρ r).bind fun z => (tg z.1 z.2).map Out.nx) ρ := (rfl)
@[simp] theorem ev_dExp : dExp f ρ = bnd .exc f (fun r ρ p => some (Out.nx ρ)) ρ := (rfl)
@[simp] theorem ev_dNil : dNil ρ = some (.ok [] ρ true) := (rfl)
@[simp] theorem ev_dCons : dCons f fl ρ = bnd .exc f (fun r ρ1 p1 => bndL .exc fl (fun rs ρ2 p2 => if r.isBor && !p2 then none else some (AnsL.ok (r :: rs) ρ2 (p1 && p2))) ρ1) ρ := (rfl)
@[simp] theorem ev_dIfS : dIfS t g h ρ = bndB .exc t (fun b ρ p => if b = true then g ρ else h ρ) ρ := (rfl)
@[simp] theorem ev_dB : dB f ρ = bnd .exc f (fun r ρ p => match r.rd ρ with | some (.bl b) => some (.ok b ρ p) | _ => none) ρ := (rfl)
@[simp] theorem ev_dNot : dNot t ρ = bndB .exc t (fun b ρ p => some (AnsB.ok (!b) ρ p)) ρ := (rfl)
@[simp] theorem ev_dAnd : dAnd ta tb ρ = bndB .exc ta (fun b ρ p => if b = true then bndB .exc tb (fun c ρ' p' => some (AnsB.ok c ρ' (p && p'))) ρ else some (.ok false ρ p)) ρ := (rfl)
@[simp] theorem ev_dOr : dOr ta tb ρ = bndB .exc ta (fun b ρ p => if b = true then some (.ok true ρ p) else bndB .exc tb (fun c ρ' p' => some (AnsB.ok c ρ' (p && p'))) ρ) ρ := (rfl)
@[simp] theorem ev_dIf : dIf t fa fb ρ = bndB .exc t (fun c ρ p => bnd .exc (if c = true then fa else fb) (fun r ρ' p' => some (Ans.ok r ρ' (p && p'))) ρ) ρ := (rfl)
@[simp] theorem ev_dAndV : dAndV fa fb ρ = bnd .exc fa (fun r ρ p => match r.rd ρ with | some (.bl true) => bnd .exc fb (fun r' ρ' p' => some (Ans.ok r' ρ' (p && p'))) ρ | some (.bl false) => some (.ok (.own (.bl false)) ρ p) | _ => none) ρ := (rfl)
@[simp] theorem ev_dC : dC d ρ = some (.ok (.own d) ρ true) := (rfl)
@[simp] theorem ev_dVar : dVar i ρ = match ρ[i]? with | some (some d) => some (.ok (if d.imm then .own d else .var i) ρ true) | _ => none := (rfl)
@[simp] theorem ev_dOp (gg : D → D → Option D) : dOp gg fa fb ρ = bnd .exc fa (fun ra ρ1 p1 => bnd .exc fb (fun rb ρ2 p2 => if ra.isBor && !p2 then none else match ra.rd ρ2, rb.rd ρ2 with | some a, some b => (gg a b).map fun d => Ans.ok (.own d) ρ2 (p1 && p2) | _, _ => none) ρ1) ρ := (rfl)
@[simp] theorem ev_dIx (gg : D → D → Option D) : dIx gg fa fb ρ = bnd .exc fa (fun ra ρ1 p1 => bnd .exc fb (fun rb ρ2 p2 => if ra.isBor && !p2 then none else match ra.rd ρ2, rb.rd ρ2 with | some a, some b => (gg a b).map fun d => Ans.ok (if d.imm then .own d else .bor d) ρ2 (p1 && p2) | _, _ => none) ρ1) ρ := (rfl)
@[simp] theorem ev_dTup : dTup fl ρ = bndL .exc fl (fun rs ρ p => if rs.length ≤ LIM then (takeRs ρ rs).map fun z => Ans.ok (.own (.tup z.1)) z.2 p else none) ρ := (rfl)
@[simp] theorem ev_dLst : dLst fl ρ = bndL .exc fl (fun rs ρ p => if rs.length ≤ LIM then (takeRs ρ rs).map fun z => Ans.ok (.own (.lst z.1)) z.2 p else none) ρ := (rfl)
@[simp] theorem ev_dCB (gg : List D → Option D) : dCB gg fl ρ = bndL .exc fl (fun rs ρ p => (rdL ρ rs).bind fun ds => (gg ds).map fun d => Ans.ok (.own d) ρ p) ρ := (rfl)
@[simp] theorem ev_dCall (φ : List D → Option FAns) : dCall φ fl ρ = bndL .exc fl (fun rs ρ p => (takeRs ρ rs).bind fun z => match φ z.1 with | some (.ok d post) => some (Ans.ok (.own d) (putBack z.2 rs post) (p && immL z.1)) | some (.exc c post) => some (.exc c (putBack z.2 rs post)) | none => none) ρ := (rfl)
@[simp] theorem ev_dPar : dPar i j fl ρ = bndL .exc fl (fun rs ρ p => (takeRs ρ rs).bind fun z => match z.1 with | [c, d] => some (Out.nx ((z.2.set i (some c)).set j (some d))) | _ => none) ρ := (rfl)
@[simp] theorem ev_dPar3 : dPar3 i j k fl ρ = bndL .exc fl (fun rs ρ p => (takeRs ρ rs).bind fun z => match z.1 with | [c, d, e] => some (Out.nx (((z.2.set i (some c)).set j (some d)).set k (some e))) | _ => none) ρ := (rfl)
@[simp] theorem ev_tName : tName i d ρ = some (ρ.set i (some d)) := (rfl)
@[simp] theorem ev_tsNil : tsNil [] ρ = some ρ := (rfl)
@[simp] theorem ev_tsCons (tt : D → Rho → Option Rho) (u : List D → Rho → Option Rho) (r : List D) : tsCons tt u (d :: r) ρ = (tt d ρ).bind (u r) := (rfl)
@[simp] theorem ev_tTupG (u : List D → Rho → Option Rho) (ds : List D) : tTupG n u (.tup ds) ρ = if ds.length = n then u ds ρ else none := (rfl)
@[simp] theorem ev_dIter1 (gg : D → Option (List D)) : dIter1 gg f ρ = bnd .exc f (fun r ρ p => (r.rd ρ).bind fun d => (gg d).map fun xs => AnsI.ok ⟨xs, r.deps, r.isBor⟩ ρ p) ρ := (rfl)
@[simp] theorem ev_dIterL (gg : List D → Option (List D)) : dIterL gg fl ρ = bndL .exc fl (fun rs ρ p => (rdL ρ rs).bind fun ds => (gg ds).map fun xs => AnsI.ok ⟨xs, rs.flatMap Res.deps, rs.any Res.isBor⟩ ρ p) ρ := (rfl)
@[simp] theorem ev_dFor (prot : List Nat) (tt : D → Rho → Option Rho) : dFor prot tt fi g ρ = bndI .exc fi (fun it ρ p => if it.need = false ∧ immL it.items = true ∧ (it.deps.all fun i => prot.contains i) = true then dForL tt g it.deps ρ it.items ρ else none) ρ := (rfl)
@[simp] theorem ev_dNil' : dNil' ρ = some (.nx ρ) := (rfl)
@[simp] theorem ev_takeR_own : takeR ρ (.own d) = some (d, ρ) := (rfl)
@[simp] theorem ev_takeR_bor : takeR ρ (.bor d) = none := (rfl)
@[simp] theorem ev_takeR_var : takeR ρ (.var i) = match ρ[i]? with | some (some d) => some (d, ρ.set i none) | _ => none := (rfl)
@[simp] theorem ev_takeRs_nil : takeRs ρ [] = some ([], ρ) := (rfl)
@[simp] theorem ev_takeRs_cons (r : Res) (rs : List Res) : takeRs ρ (r :: rs) = match takeR ρ r with | some (d, ρ1) => (match takeRs ρ1 rs with | some (ds, ρ2) => some (d :: ds, ρ2) | none => none) | none => none := (rfl)
@[simp] theorem ev_rd_own : (Res.own d).rd ρ = some d := (rfl)
@[simp] theorem ev_rd_bor : (Res.bor d).rd ρ = some d := (rfl)
@[simp] theorem ev_rd_var : (Res.var i).rd ρ = (ρ[i]?).join := (rfl)
@[simp] theorem ev_rdL_nil : rdL ρ [] = some [] := (rfl)
@[simp] theorem ev_rdL_cons (r : Res) (rs : List Res) : rdL ρ (r :: rs) = match r.rd ρ, rdL ρ rs with | some d, some ds => some (d :: ds) | _, _ => none := (rfl)
@[simp] theorem ev_bor_own : (Res.own d).isBor = false := (rfl)
@[simp] theorem ev_bor_var : (Res.var i).isBor = false := (rfl)
@[simp] theorem ev_bor_bor : (Res.bor d).isBor = true := (rfl)
@[simp] theorem ev_deps_own : (Res.own d).deps = [] := (rfl)
@[simp] theorem ev_deps_var : (Res.var i).deps = [i] := (rfl)
@[simp] theorem ev_deps_bor : (Res.bor d).deps = [] := (rfl)
@[simp] theorem ev_pb_nil (post : Rho) : putBack ρ [] post = ρ := by cases post <;> rfl
@[simp] theorem ev_pb_nil2 (rs : List Res) : putBack ρ rs [] = ρ := by cases rs <;> first | rfl | (rename_i r _; cases r <;> rfl)
@[simp] theorem ev_pb_own (rs : List Res) (x : Option D) (post : Rho) : putBack ρ (.own d :: rs) (x :: post) = putBack ρ rs post := (rfl)
@[simp] theorem ev_pb_bor (rs : List Res) (x : Option D) (post : Rho) : putBack ρ (.bor d :: rs) (x :: post) = putBack ρ rs post := (rfl)
@[simp] theorem ev_pb_var (rs : List Res) (x : Option D) (post : Rho) : putBack ρ (.var i :: rs) (x :: post) = putBack (ρ.set i x) rs post := (rfl)
@[simp] theorem ev_imm_int (x : Int) : (D.int x).imm = true := (rfl)
@[simp] theorem ev_imm_bl (x : Bool) : (D.bl x).imm = true := (rfl)
@[simp] theorem ev_imm_non : D.non.imm = true := (rfl)
@[simp] theorem ev_imm_str (x : PySem.Str) : (D.str x).imm = true := (rfl)
@[simp] theorem ev_imm_lst (x : List D) : (D.lst x).imm = false := (rfl)
@[simp] theorem ev_imm_dic (x : List (Key × D)) : (D.dic x).imm = false := (rfl)
@[simp] theorem ev_imm_fls (x : List D) : (D.fls x).imm = true := (rfl)
@[simp] theorem ev_imm_tup (x : List D) : (D.tup x).imm = immL x := by rw [D.imm]
@[simp] theorem ev_immL_nil : immL [] = true := (rfl)
@[simp] theorem ev_immL_cons (x : D) (r : List D) : immL (x :: r) = (x.imm && immL r) := by rw [immL]
@[simp] theorem ev_depsOk_nil (ρ0 : Rho) : depsOk [] ρ0 ρ = true := (rfl)
@[simp] theorem ev_depsOk_cons (ρ0 : Rho) (r : List Nat) : depsOk (i :: r) ρ0 ρ = (decide (ρ[i]? = ρ0[i]?) && depsOk r ρ0 ρ) := (rfl)
@[simp] theorem ev_mask_nil : maskR [] ρ = [] := by cases ρ <;> rfl
@[simp] theorem ev_mask_cons (b : Bool) (bs : List Bool) (r : Option D) : maskR (b :: bs) (r :: ρ) = (if b = true then r else none) :: maskR bs ρ := (rfl)
end
section
variable (f fa fb fe : Ev) (fl : EvL) (fi : EvI) (t ta tb : EvB) (g h : Sv) (ρ : Rho) (d : D) (i j k n : Nat)
@[simp] theorem ev_dPut (fk fv : Ev) : dPut i fk fv ρ = bnd .exc fv (fun rv ρ1 p1 => (takeR ρ1 rv).bind fun z => match (z.2[i]?).join with
  | some (.dic _) => bnd .exc fk (fun rk ρ2 p2 => match (rk.rd ρ2).bind D.key, (ρ2[i]?).join with
    | some k, some (.dic kvs) => if kvs.length < LIM ∧ (z.1.imm = true ∨ (kvs.any fun kv => decide (kv.1 = k)) = false) then some (Out.nx (ρ2.set i (some (.dic (putD kvs k z.1))))) else none
    | _, _ => none) z.2
  | _ => none) ρ := (rfl)
@[simp] theorem ev_dPopK (kk : Key) : dPopK i kk ρ = match (ρ[i]?).join with
  | some (.dic kvs) => (match getD kvs kk with
    | some (.lst xs) => (gPop xs []).map fun y => Ans.ok (.own y.1) (ρ.set i (some (.dic (modD kvs kk (.lst y.2))))) false
    | _ => none)
  | _ => none := (rfl)
@[simp] theorem ev_dAugI (op : Int → Int → Int) : dAugI op i f ρ = match (ρ[i]?).join with
  | some (.int m) => bnd .exc f (fun r ρ1 p => match r.rd ρ1 with
    | some (.int n) => some (Out.nx (ρ1.set i (some (.int (op m n)))))
    | _ => none) ρ
  | _ => none := (rfl)
@[simp] theorem ev_dMtM (gg : List D → List D → Option (D × List D)) : dMtM gg i fl ρ = match (ρ[i]?).join with
  | some (.lst _) => bndL .exc fl (fun rs ρ1 p => (takeRs ρ1 rs).bind fun z => match (z.2[i]?).join with
    | some (.lst xs) => (gg xs z.1).map fun y => Ans.ok (.own y.1) (z.2.set i (some (.lst y.2))) false
    | _ => none) ρ
  | _ => none := (rfl)
@[simp] theorem ev_dSl (gg : D → Option Int → Option Int → Option D) (lo hi : Option Ev) : dSl gg fe lo hi ρ = bnd .exc fe (fun r ρ1 p1 => partB .exc lo (fun l ρ2 p2 => partB .exc hi (fun u ρ3 p3 =>
  if r.isBor && !(p2 && p3) then none else (r.rd ρ3).bind fun d => (gg d l u).map fun d => Ans.ok (.own d) ρ3 (p1 && (p2 && p3))) ρ2) ρ1) ρ := (rfl)
@[simp] theorem ev_d1 (gg : D → Option D) : d1 gg fa ρ = bnd .exc fa (fun ra ρ1 p1 => (ra.rd ρ1).bind fun a => (gg a).map fun d => Ans.ok (.own d) ρ1 p1) ρ := (rfl)
@[simp] theorem ev_dPairs_nil : dPairs [] = dNil := (rfl)
@[simp] theorem ev_dPairs_cons (kv : Ev × Ev) (r : List (Ev × Ev)) : dPairs (kv :: r) = dCons kv.1 (dCons kv.2 (dPairs r)) := (rfl)
@[simp] theorem ev_dDisp (fs : List (Ev × Ev)) : dDisp fs ρ = bndL .exc (dPairs fs) (fun rs ρ p => (takeRs ρ rs).bind fun z => (unflat z.1).bind fun kds =>
  if kds.length ≤ 15 ∧ (kds.map (·.1)).Nodup then some (Ans.ok (.own (.dic kds)) z.2 p) else none) ρ := (rfl)
@[simp] theorem ev_unflat_nil : unflat [] = some [] := (rfl)
@[simp] theorem ev_unflat_cons (a b : D) (r : List D) : unflat (a :: b :: r) = match a.key, unflat r with | some k, some s => some ((k, b) :: s) | _, _ => none := (rfl)
@[simp] theorem ev_dDic0 : dDic0 ρ = some (.ok (.own (.dic [])) ρ true) := (rfl)
@[simp] theorem ev_gApp (xs : List D) : gApp xs [d] = if xs.length < LIM then some (.non, xs ++ [d]) else none := (rfl)
@[simp] theorem ev_gPop (xs : List D) : gPop xs [] = xs.getLast?.map fun y => (y, xs.dropLast) := (rfl)
@[simp] theorem ev_key_int (x : Int) : (D.int x).key = some (.inl x) := (rfl)
@[simp] theorem ev_key_str (x : PySem.Str) : (D.str x).key = some (.inr x) := (rfl)
@[simp] theorem ev_gAdd (x y : Int) : gAdd (.int x) (.int y) = some (.int (x + y)) := (rfl)
@[simp] theorem ev_gSub (x y : Int) : gSub (.int x) (.int y) = some (.int (x - y)) := (rfl)
@[simp] theorem ev_gLt (x y : Int) : gLt (.int x) (.int y) = some (.bl (decide (x < y))) := (rfl)
@[simp] theorem ev_gLe (x y : Int) : gLe (.int x) (.int y) = some (.bl (decide (x ≤ y))) := (rfl)
@[simp] theorem ev_gGt (x y : Int) : gGt (.int x) (.int y) = some (.bl (decide (y < x))) := (rfl)
@[simp] theorem ev_gGe (x y : Int) : gGe (.int x) (.int y) = some (.bl (decide (y ≤ x))) := (rfl)
@[simp] theorem ev_gMul (x y : Int) : gMul (.int x) (.int y) = if okMul x y = true then some (.int (x * y)) else none := (rfl)
@[simp] theorem ev_gDiv (x y : Int) : gDiv (.int x) (.int y) = if okDiv x y = true then some (.int (x / y)) else none := (rfl)
@[simp] theorem ev_gMod (x y : Int) : gMod (.int x) (.int y) = if okMod x y = true then some (.int (x % y)) else none := (rfl)
@[simp] theorem ev_gNeg (x : Int) : gNeg (.int x) = some (.int (-x)) := (rfl)
@[simp] theorem ev_gInt_int (x : Int) : gInt [.int x] = some (.int x) := (rfl)
@[simp] theorem ev_gInt_bl (x : Bool) : gInt [.bl x] = some (.int (if x then 1 else 0)) := (rfl)
@[simp] theorem ev_gMax (x y : Int) : gMax [.int x, .int y] = some (.int (if y > x then y else x)) := (rfl)
@[simp] theorem ev_gAbs (x : Int) : gAbs [.int x] = some (.int (if x < 0 then -x else x)) := (rfl)
@[simp] theorem ev_gLen_lst (xs : List D) : gLen [.lst xs] = some (.int xs.length) := (rfl)
@[simp] theorem ev_gLen_tup (xs : List D) : gLen [.tup xs] = some (.int xs.length) := (rfl)
@[simp] theorem ev_gTupOf_lst (xs : List D) : gTupOf [.lst xs] = if immL xs then some (.tup xs) else none := (rfl)
@[simp] theorem ev_gTupOf_tup (xs : List D) : gTupOf [.tup xs] = if immL xs then some (.tup xs) else none := (rfl)
@[simp] theorem ev_gLstOf_tup (xs : List D) : gLstOf [.tup xs] = if immL xs then some (.lst xs) else none := (rfl)
@[simp] theorem ev_gLstOf_lst (xs : List D) : gLstOf [.lst xs] = if immL xs then some (.lst xs) else none := (rfl)
@[simp] theorem ev_tupI (xs : List D) : tupI (.tup xs) = some xs := (rfl)
@[simp] theorem ev_lis_lst (xs : List D) : (D.lst xs).lis = some xs := (rfl)
@[simp] theorem ev_lis_fls (xs : List D) : (D.fls xs).lis = some xs := (rfl)
@[simp] theorem ev_gIsN (neg : Bool) (a : D) : gIsN neg a .non = some (.bl (if neg then !decide (a = .non) else decide (a = .non))) := (rfl)
@[simp] theorem ev_gInD (neg : Bool) (a : D) (kvs : List (Key × D)) : gInD neg a (.dic kvs) = match a.key with | some k => some (.bl (if neg then !(getD kvs k).isSome else (getD kvs k).isSome)) | none => none := by
  unfold gInD; cases a.key <;> rfl
@[simp] theorem ev_gIxD (kvs : List (Key × D)) (a : D) : gIxD (.dic kvs) a = match a.key with | some k => getD kvs k | none => none := by
  unfold gIxD; cases a.key <;> rfl
@[simp] theorem ev_gIxL_lst (xs : List D) (x : Int) : gIxL (.lst xs) (.int x) = atI xs x := (rfl)
@[simp] theorem ev_gIxT_tup (xs : List D) (x : Int) : gIxT (.tup xs) (.int x) = atI xs x := (rfl)
end
theorem atI_nat {xs : List D} {k : Nat} {d : D} (h : xs[k]? = some d) : atI xs (k : Int) = some d := by
  have hk : k < xs.length := (List.getElem?_eq_some_iff.mp h).1
  unfold atI ixN
  rw [if_pos (by omega), if_pos (by omega)]
  simpa using h
theorem atI_last {xs : List D} {d : D} (h : xs.getLast? = some d) : atI xs (-1) = some d := by
  have hk : xs ≠ [] := by rintro rfl; simp at h
  have hl : 0 < xs.length := List.length_pos_iff.mpr hk
  unfold atI ixN
  rw [if_neg (by omega), if_pos (by omega)]
  rw [List.getLast?_eq_getElem?] at h
  have : ((-1 : Int) + xs.length).toNat = xs.length - 1 := by omega
  simp only [Option.bind_some, this, h]
@[simp] theorem atI_0 (d : D) (r : List D) : atI (d :: r) 0 = some d := atI_nat (k := 0) rfl
@[simp] theorem atI_1 (d e : D) (r : List D) : atI (d :: e :: r) 1 = some e := atI_nat (k := 1) rfl
@[simp] theorem atI_2 (d e f : D) (r : List D) : atI (d :: e :: f :: r) 2 = some f := atI_nat (k := 2) rfl
/-! ### numbers below bounds -/
abbrev dn (n : Nat) : D := .int (n : Int)
@[simp] theorem dn_imm (n : Nat) : (dn n).imm = true := rfl
theorem immL_all {xs : List D} (h : ∀ x ∈ xs, x.imm = true) : immL xs = true := immL_iff.mpr h
@[simp] theorem immL_dn (l : List Nat) : immL (l.map dn) = true := immL_all fun x hx => by
  obtain ⟨n, _, rfl⟩ := List.mem_map.mp hx; rfl
@[simp] theorem immL_map {α : Type} (l : List α) (φ : α → D) : immL (l.map φ) = l.all fun x => (φ x).imm := by
  induction l with
  | nil => rfl
  | cons a r ih => simp [ih]
theorem dn_inj {a b : Nat} (h : dn a = dn b) : a = b := by

  injection h with h
  exact Int.ofNat.inj h
theorem anyP_dn (m : Nat) (l : List Nat) : anyP (dn m) (l.map dn) = decide (m ∈ l) := by
  unfold anyP
  induction l with
  | nil => rfl
  | cons a r ih =>
    rw [List.map_cons, toPL, List.any_cons, ih]
    have : PySem.PyData.eqv (toP (dn a)) (toP (dn m)) = decide (m = a) := by
      show (((a : Int)) == (m : Int)) = _
      by_cases h : m = a
      · subst h; simp
      · rw [decide_eq_false h]
        exact beq_eq_false_iff_ne.mpr (by omega)
    rw [this]
    by_cases h : m = a <;> simp [h]
open PySem in
theorem shaped_dn (m : Nat) : SeqAt.shaped (toP (dn m)) = true := by
  simp [dn, toP, SeqAt.shaped, PyData.canLay0, PyData.depth]
open PySem in
theorem flat_dn (l : List Nat) : PyData.canLayAll0 (toPL (l.map dn)) = true ∧ PyData.depthAll (toPL (l.map dn)) ≤ 1 := by
  induction l with
  | nil => simp [toPL, PyData.canLayAll0, PyData.depthAll]
  | cons a r ih =>
    simp only [List.map_cons, toPL, dn, toP, PyData.canLayAll0, PyData.canLay0, PyData.depthAll, PyData.depth, Bool.true_and]
    exact ⟨ih.1, by have := ih.2; omega⟩
open PySem in
theorem shaped_dns (l : List Nat) : SeqAt.shaped (toP (.tup (l.map dn))) = true ∧ SeqAt.shaped (toP (.lst (l.map dn))) = true := by
  have h := flat_dn l
  constructor <;>
  · simp only [toP, SeqAt.shaped, PyData.canLay0, PyData.depth, h.1, Bool.true_and, decide_eq_true_eq]
    have := h.2; omega
theorem gInN_dn (neg : Bool) (m : Nat) (l : List Nat) : gInN neg (dn m) (.lst (l.map dn)) = some (.bl (if neg then !decide (m ∈ l) else decide (m ∈ l))) ∧ gInN neg (dn m) (.tup (l.map dn)) = some (.bl (if neg then !decide (m ∈ l) else decide (m ∈ l))) := by
  constructor <;> simp [gInN, D.seq, D.lis, shaped_dn, (shaped_dns l).1, anyP_dn]
theorem lim_eq : LIM = 100000 := rfl
/-! ### dicts of numbers -/
def kD (l : List Nat) (v : Nat → D) : List (Key × D) := l.map fun (m : Nat) => (.inl (m : Int), v m)
theorem getD_kD (l : List Nat) (v : Nat → D) (j : Nat) : getD (kD l v) (.inl (j : Int)) = if j ∈ l then some (v j) else none := by
  unfold getD kD
  induction l with
  | nil => rfl
  | cons a r ih =>
    rw [List.map_cons, List.find?_cons]
    by_cases h : a = j
    · subst h; simp
    · have : decide ((Sum.inl (a : Int) : Key) = .inl (j : Int)) = false := by
        simp only [Sum.inl.injEq, decide_eq_false_iff_not]; omega
      rw [this]
      simp only [ih, List.mem_cons]
      by_cases h2 : j ∈ r
      · simp [h2]
      · have : ¬ (j = a ∨ j ∈ r) := by rintro (z | z); exact h z.symm; exact h2 z
        rw [if_neg h2, if_neg this]
theorem any_kD (l : List Nat) (v : Nat → D) (j : Nat) : ((kD l v).any fun kv => decide (kv.1 = (.inl (j : Int) : Key))) = decide (j ∈ l) := by
  unfold kD
  induction l with
  | nil => rfl
  | cons a r ih =>
    rw [List.map_cons, List.any_cons, ih]
    by_cases h : a = j
    · subst h; simp
    · have : decide ((Sum.inl (a : Int) : Key) = .inl (j : Int)) = false := by
        simp only [Sum.inl.injEq, decide_eq_false_iff_not]; omega
      simp only [this, Bool.false_or, List.mem_cons]
      by_cases h2 : j ∈ r
      · simp [h2]
      · have : ¬ (j = a ∨ j ∈ r) := by rintro (z | z); exact h z.symm; exact h2 z
        rw [decide_eq_false h2, decide_eq_false this]
theorem putD_kD {l : List Nat} {v v' : Nat → D} {j : Nat} {d : D} (h : j ∉ l) (h1 : ∀ m ∈ l, v' m = v m) (h2 : v' j = d) : putD (kD l v) (.inl (j : Int)) d = kD (l ++ [j]) v' := by
  unfold putD
  rw [any_kD, decide_eq_false h, if_neg Bool.false_ne_true]
  unfold kD
  rw [List.map_append]
  congr 1
  · exact List.map_congr_left fun m hm => by rw [h1 m hm]
  · simp [h2]
@[simp] theorem kD_length (l : List Nat) (v : Nat → D) : (kD l v).length = l.length := by simp [kD]
theorem keysI_kD (l : List Nat) (v : Nat → D) : keysI (kD l v) = some (l.map Int.ofNat) := by
  induction l with
  | nil => rfl
  | cons a r ih =>
    have : kD (a :: r) v = (.inl (a : Int), v a) :: kD r v := rfl
    rw [this]
    simp [keysI, ih]
/-- one more, if it is new -/
def addN (l : List Nat) (j : Nat) : List Nat := if j ∈ l then l else l ++ [j]
theorem addN_mem {l : List Nat} {j x : Nat} : x ∈ addN l j ↔ x ∈ l ∨ x = j := by
  unfold addN
  split
  · rename_i h
    exact ⟨.inl, fun z => z.elim id fun z => z ▸ h⟩
  · simp
theorem addN_nodup {l : List Nat} {j : Nat} (h : l.Nodup) : (addN l j).Nodup := by
  unfold addN
  split
  · exact h
  · rename_i hj
    refine List.nodup_append.mpr ⟨h, by simp, fun a ha b hb => ?_⟩
    simp only [List.mem_singleton] at hb
    subst hb
    exact fun z => hj (z ▸ ha)
theorem addAll_mem {js l : List Nat} {x : Nat} : x ∈ js.foldl addN l ↔ x ∈ l ∨ x ∈ js := by
  induction js generalizing l with
  | nil => simp
  | cons j r ih => rw [List.foldl_cons, ih, addN_mem, List.mem_cons, or_assoc]
theorem addAll_nodup {js l : List Nat} (h : l.Nodup) : (js.foldl addN l).Nodup := by
  induction js generalizing l with
  | nil => exact h
  | cons j r ih => exact ih (addN_nodup h)
theorem addN_pre {l : List Nat} {j : Nat} : ∃ r, addN l j = l ++ r := by
  unfold addN
  split
  · exact ⟨[], by simp⟩
  · exact ⟨[j], rfl⟩
theorem addAll_pre {js l : List Nat} : ∃ r, js.foldl addN l = l ++ r := by
  induction js generalizing l with
  | nil => exact ⟨[], by simp⟩
  | cons j r ih =>
    obtain ⟨a, ha⟩ := addN_pre (l := l) (j := j)
    obtain ⟨b, hb⟩ := ih (l := addN l j)
    exact ⟨a ++ b, by rw [List.foldl_cons, hb, ha, List.append_assoc]⟩
theorem nodup_len {l : List Nat} {n : Nat} (h : l.Nodup) (hb : ∀ x ∈ l, x < n) : l.length ≤ n := by
  have := List.Nodup.length_le_of_subset (l₂ := List.range n) h fun x hx => List.mem_range.mpr (hb x hx)
  simpa using this
/-! ### comprehensions -/
theorem depsOk_refl (deps : List Nat) (ρ : Rho) : depsOk deps ρ ρ = true := by
  induction deps with
  | nil => rfl
  | cons a r ih => simp [ih]
theorem wipe_set {i : Nat} {ρ : Rho} {x : Option D} (h : ρ[i]? = some none) : wipeR (ρ.set i x) [i] = ρ := by
  simp only [wipeR, List.set_set]
  apply List.ext_getElem?
  intro j
  by_cases hj : i = j
  · subst hj
    have hi := (List.getElem?_eq_some_iff.mp h).1
    rw [List.getElem?_set_self hi, h]
  · rw [List.getElem?_set_ne hj]
/-- a comprehension over one name that changes nothing -/
theorem lc_pure {i : Nat} {tt : EvB} {fe : Ev} {deps : List Nat} {need : Bool} {ρ : Rho} {b : D → Bool} {y : D → D} (hρ : ρ[i]? = some none) :
    ∀ (xs acc : List D), acc.length + xs.length ≤ LIM →
    (∀ d ∈ xs, tt (ρ.set i (some d)) = some (.ok (b d) (ρ.set i (some d)) true) ∧ (b d = true → fe (ρ.set i (some d)) = some (.ok (.own (y d)) (ρ.set i (some d)) true))) →
    lcL [i] (tName i) tt fe deps need ρ xs ρ acc true = some (ρ, acc ++ (xs.filter b).map y, true) := by
  intro xs
  induction xs with
  | nil => intro acc _ _; simp [lcL, depsOk_refl]
  | cons d r ih =>
    intro acc hl h
    obtain ⟨h1, h2⟩ := h d List.mem_cons_self
    have hr := fun d hd => h d (List.mem_cons_of_mem _ hd)
    simp only [List.length_cons] at hl
    unfold lcL
    simp only [depsOk_refl, Bool.true_and, Bool.or_true, if_true, ev_tName, h1]
    cases hb : b d with
    | false =>
      simp only [wipe_set hρ]
      rw [ih acc (by omega) hr]
      simp [List.filter_cons, hb]
    | true =>
      simp only [h2 hb, ev_takeR_own, wipe_set hρ]
      rw [if_pos (by omega), Bool.true_and]
      rw [ih (acc ++ [y d]) (by simp; omega) hr]
      simp [List.filter_cons, hb]
/-- .. the whole, over a walked thing -/
theorem dLc_pure {i : Nat} {tt : EvB} {fe : Ev} {fi : EvI} {ρ : Rho} {it : ItR} {b : D → Bool} {y : D → D} (e : fi ρ = some (.ok it ρ true)) (hρ : ρ[i]? = some none) (hi : immL it.items = true) (hdep : i ∉ it.deps) (hl : it.items.length ≤ LIM)
    (h : ∀ d ∈ it.items, tt (ρ.set i (some d)) = some (.ok (b d) (ρ.set i (some d)) true) ∧ (b d = true → fe (ρ.set i (some d)) = some (.ok (.own (y d)) (ρ.set i (some d)) true))) :
    dLc [i] (tName i) fi tt fe ρ = some (.ok (.own (.lst ((it.items.filter b).map y))) ρ true) := by
  have hw : wipeR ρ [i] = ρ := by
    have := wipe_set (x := none) hρ
    have e2 : ρ.set i none = ρ := by
      apply List.ext_getElem?
      intro j
      by_cases hj : i = j
      · subst hj
        have hi := (List.getElem?_eq_some_iff.mp hρ).1
        rw [List.getElem?_set_self hi, hρ]
      · rw [List.getElem?_set_ne hj]
    rw [e2] at this; exact this
  have hd : (it.deps.all fun j => ![i].contains j) = true := by
    rw [List.all_eq_true]
    intro j hj
    simp only [List.contains_cons, List.contains_nil, Bool.or_false, Bool.not_eq_true', beq_eq_false_iff_ne]
    intro z; exact hdep (z ▸ hj)
  unfold dLc
  simp only [ev_bndI, e]
  rw [if_pos ⟨hi, hd⟩, hw, lc_pure hρ it.items [] (by simpa using hl) h]
  simp
theorem seq_to {g h : Sv} {ρ ρ1 : Rho} {o : Option Out} (e : g ρ = some (.nx ρ1)) (e2 : h ρ1 = o) : dSeq g h ρ = o := by
  show (match g ρ with | some (.nx ρ') => h ρ' | o => o) = o
  rw [e]; exact e2
theorem def_ret {N : Nat} {keep : List Bool} {g : Sv} {ds : List D} {d : D} {ρ : Rho} (hl : ds.length = keep.length) (e : g (ds.map some ++ List.replicate (N - keep.length) none) = some (.ret d ρ)) : defD N keep g ds = some (.ok d (maskR keep ρ)) := by
  rw [defD_eq]
  rw [if_pos hl, e]
/-! ### rules for loops -/
/-- while: I m ρ: the invariant with at most m turns to come -/
theorem while_rule {t : EvB} {g : Sv} (I : Nat → Rho → Prop) (Q : Rho → Prop)
    (step : ∀ m ρ, I m ρ → ∃ b ρ1 p, t ρ = some (.ok b ρ1 p) ∧ (b = true → ∃ ρ2, g ρ1 = some (.nx ρ2) ∧ ∃ m', m' < m ∧ I m' ρ2) ∧ (b = false → Q ρ1)) :
    ∀ (n m : Nat) (ρ : Rho), m < n → I m ρ → ∃ ρ', dWhile t g n ρ = some (.nx ρ') ∧ Q ρ' := by
  intro n
  induction n with
  | zero => intro m ρ h; omega
  | succ n ih =>
    intro m ρ hm hI
    obtain ⟨b, ρ1, p, e, h1, h2⟩ := step m ρ hI
    cases b with
    | false => exact ⟨ρ1, by simp [dWhile, e], h2 rfl⟩
    | true =>
      obtain ⟨ρ2, e2, m', hm', hI'⟩ := h1 rfl
      obtain ⟨ρ', e3, q⟩ := ih m' ρ2 (by omega) hI'
      exact ⟨ρ', by simp [dWhile, e, e2, e3], q⟩
/-- for: I done ρ -/
theorem for_rule {tg : D → Rho → Option Rho} {g : Sv} {deps : List Nat} {ρ0 : Rho} (I : List D → Rho → Prop) (hd : ∀ l ρ, I l ρ → depsOk deps ρ0 ρ = true) :
    ∀ (todo done : List D) (ρ : Rho), (∀ a d b ρ, done ++ todo = a ++ d :: b → I a ρ → ∃ ρ1 ρ2, tg d ρ = some ρ1 ∧ (g ρ1 = some (.nx ρ2) ∨ g ρ1 = some (.ct ρ2)) ∧ I (a ++ [d]) ρ2) →
      I done ρ → ∃ ρ', dForL tg g deps ρ0 todo ρ = some (.nx ρ') ∧ I (done ++ todo) ρ' := by
  intro todo
  induction todo with
  | nil => intro done ρ _ hI; exact ⟨ρ, by simp [dForL, hd _ _ hI], by simpa using hI⟩
  | cons d r ih =>
    intro done ρ step hI
    obtain ⟨ρ1, ρ2, e1, e2, hI2⟩ := step done d r ρ rfl hI
    obtain ⟨ρ', e3, q⟩ := ih (done ++ [d]) ρ2 (fun a x b ρ h => step a x b ρ (by simpa using h)) hI2
    refine ⟨ρ', ?_, by simpa using q⟩
    rcases e2 with e2 | e2 <;> simp [dForL, hd _ _ hI, e1, e2, e3]
/-- for over all, from its start -/
theorem for_all {tg : D → Rho → Option Rho} {g : Sv} {deps : List Nat} {ρ0 : Rho} (I : List D → Rho → Prop) (hd : ∀ l ρ, I l ρ → depsOk deps ρ0 ρ = true) {xs : List D} {ρ : Rho} (h0 : I [] ρ)
    (step : ∀ a d b ρ, xs = a ++ d :: b → I a ρ → ∃ ρ1 ρ2, tg d ρ = some ρ1 ∧ (g ρ1 = some (.nx ρ2) ∨ g ρ1 = some (.ct ρ2)) ∧ I (a ++ [d]) ρ2) :
    ∃ ρ', dForL tg g deps ρ0 xs ρ = some (.nx ρ') ∧ I xs ρ' := by
  have := for_rule I hd xs [] ρ (by simpa using step) h0
  simpa using this
/-- for over a mapped list -/
theorem for_map {α : Type} {tg : D → Rho → Option Rho} {g : Sv} {deps : List Nat} {ρ0 : Rho} {φ : α → D} (I : List α → Rho → Prop) (hd : ∀ l ρ, I l ρ → depsOk deps ρ0 ρ = true) :
    ∀ (todo done : List α) (ρ : Rho), (∀ a x b ρ, done ++ todo = a ++ x :: b → I a ρ → ∃ ρ1 ρ2, tg (φ x) ρ = some ρ1 ∧ (g ρ1 = some (.nx ρ2) ∨ g ρ1 = some (.ct ρ2)) ∧ I (a ++ [x]) ρ2) →
      I done ρ → ∃ ρ', dForL tg g deps ρ0 (todo.map φ) ρ = some (.nx ρ') ∧ I (done ++ todo) ρ' := by
  intro todo
  induction todo with
  | nil => intro done ρ _ hI; exact ⟨ρ, by simp [dForL, hd _ _ hI], by simpa using hI⟩
  | cons d r ih =>
    intro done ρ step hI
    obtain ⟨ρ1, ρ2, e1, e2, hI2⟩ := step done d r ρ rfl hI
    obtain ⟨ρ', e3, q⟩ := ih (done ++ [d]) ρ2 (fun a x b ρ h => step a x b ρ (by simpa using h)) hI2
    refine ⟨ρ', ?_, by simpa using q⟩
    rcases e2 with e2 | e2 <;> simp [dForL, hd _ _ hI, e1, e2, e3]
theorem for_mapped {α : Type} {tg : D → Rho → Option Rho} {g : Sv} {deps : List Nat} {ρ0 : Rho} {φ : α → D} {l : List α} {ρ : Rho} (I : List α → Rho → Prop) (hd : ∀ l ρ, I l ρ → depsOk deps ρ0 ρ = true) (h0 : I [] ρ)
    (step : ∀ a x b ρ, l = a ++ x :: b → I a ρ → ∃ ρ1 ρ2, tg (φ x) ρ = some ρ1 ∧ (g ρ1 = some (.nx ρ2) ∨ g ρ1 = some (.ct ρ2)) ∧ I (a ++ [x]) ρ2) :
    ∃ ρ', dForL tg g deps ρ0 (l.map φ) ρ = some (.nx ρ') ∧ I l ρ' := by
  have := for_map I hd l [] ρ (by simpa using step) h0
  simpa using this
end PD
end
end
section
set_option Elab.async false
set_option linter.all false
set_option maxRecDepth 100000
noncomputable section
/-! A rule for comprehensions that do something; the draws that all laws share. -/
namespace PD
open L2
/-- a comprehension over a mapped list: I done ρ acc -/
theorem lc_map {α : Type} {vs : List Nat} {tg : D → Rho → Option Rho} {tt : EvB} {fe : Ev} {deps : List Nat} {ρ0 : Rho} {φ : α → D} (I : List α → Rho → List D → Prop) (hd : ∀ l ρ acc, I l ρ acc → depsOk deps ρ0 ρ = true) :
    ∀ (todo done : List α) (ρ : Rho) (acc : List D) (p : Bool), (∀ a x b ρ acc, done ++ todo = a ++ x :: b → I a ρ acc → ∃ ρ1, tg (φ x) ρ = some ρ1 ∧
      ((∃ ρ2 p2 re ρ3 p3 y ρ4, tt ρ1 = some (.ok true ρ2 p2) ∧ fe ρ2 = some (.ok re ρ3 p3) ∧ takeR ρ3 re = some (y, ρ4) ∧ acc.length < LIM ∧ I (a ++ [x]) (wipeR ρ4 vs) (acc ++ [y])) ∨
       (∃ ρ2 p2, tt ρ1 = some (.ok false ρ2 p2) ∧ I (a ++ [x]) (wipeR ρ2 vs) acc))) →
      I done ρ acc → ∃ ρ' acc' p', lcL vs tg tt fe deps false ρ0 (todo.map φ) ρ acc p = some (ρ', acc', p') ∧ I (done ++ todo) ρ' acc' := by
  intro todo
  induction todo with
  | nil => intro done ρ acc p _ hI; exact ⟨ρ, acc, p, by simp [lcL, hd _ _ _ hI], by simpa using hI⟩
  | cons x r ih =>
    intro done ρ acc p step hI
    obtain ⟨ρ1, e1, e2⟩ := step done x r ρ acc rfl hI
    rcases e2 with ⟨ρ2, p2, re, ρ3, p3, y, ρ4, h1, h2, h3, h4, hI2⟩ | ⟨ρ2, p2, h1, hI2⟩
    · obtain ⟨ρ', acc', p', e3, q⟩ := ih (done ++ [x]) _ _ (p && (p2 && p3)) (fun a z b ρ acc h => step a z b ρ acc (by simpa using h)) hI2
      refine ⟨ρ', acc', p', ?_, by simpa using q⟩
      rw [List.map_cons, lcL]
      simp [hd _ _ _ hI, e1, h1, h2, h3, h4, e3]
    · obtain ⟨ρ', acc', p', e3, q⟩ := ih (done ++ [x]) _ _ (p && p2) (fun a z b ρ acc h => step a z b ρ acc (by simpa using h)) hI2
      refine ⟨ρ', acc', p', ?_, by simpa using q⟩
      rw [List.map_cons, lcL]
      simp [hd _ _ _ hI, e1, h1, e3]
/-- .. the whole -/
theorem dLc_map {α : Type} {vs : List Nat} {tg : D → Rho → Option Rho} {tt : EvB} {fe : Ev} {fi : EvI} {ρ : Rho} {deps : List Nat} {φ : α → D} {l : List α} {ρ1 : Rho} {p0 : Bool} (I : List α → Rho → List D → Prop)
    (e : fi ρ = some (.ok ⟨l.map φ, deps, false⟩ ρ1 p0)) (hi : immL (l.map φ) = true) (hv : (deps.all fun i => !vs.contains i) = true) (hd : ∀ l ρ acc, I l ρ acc → depsOk deps (wipeR ρ1 vs) ρ = true) (h0 : I [] (wipeR ρ1 vs) [])
    (step : ∀ a x b ρ acc, l = a ++ x :: b → I a ρ acc → ∃ ρ1, tg (φ x) ρ = some ρ1 ∧
      ((∃ ρ2 p2 re ρ3 p3 y ρ4, tt ρ1 = some (.ok true ρ2 p2) ∧ fe ρ2 = some (.ok re ρ3 p3) ∧ takeR ρ3 re = some (y, ρ4) ∧ acc.length < LIM ∧ I (a ++ [x]) (wipeR ρ4 vs) (acc ++ [y])) ∨
       (∃ ρ2 p2, tt ρ1 = some (.ok false ρ2 p2) ∧ I (a ++ [x]) (wipeR ρ2 vs) acc))) :
    ∃ ρ' acc' p', dLc vs tg fi tt fe ρ = some (.ok (.own (.lst acc')) ρ' p') ∧ I l ρ' acc' := by
  obtain ⟨ρ', acc', p', e2, q⟩ := lc_map I hd l [] (wipeR ρ1 vs) [] true (by simpa using step) h0
  refine ⟨ρ', acc', p0 && p', ?_, by simpa using q⟩
  unfold dLc
  simp only [ev_bndI, e]
  rw [if_pos ⟨hi, hv⟩, e2]
  rfl
theorem small_nat {n : Nat} (h : n ≤ 1000000) : smallI (n : Int) = true := by rw [smallI_eq]; simp only [decide_eq_true_eq]; omega
theorem rangeL_nat (n : Nat) : rangeL 0 n = (List.range n).map dn := by unfold rangeL; simp only [Int.zero_add]
theorem ev_gRange1 (j : Int) : gRange1 [.int j] = if smallI j = true then some (rangeL 0 j.toNat) else none := rfl
theorem range1_nat {n : Nat} (h : n ≤ 1000000) : gRange1 [dn n] = some ((List.range n).map dn) := by
  rw [dn, ev_gRange1, if_pos (small_nat h), Int.toNat_natCast, rangeL_nat]
theorem ev_gPopAt (xs : List D) (i : Int) : gPopAt xs [.int i] = if 0 ≤ i ∧ smallI i = true then (xs[i.toNat]?).map fun y => (y, xs.eraseIdx i.toNat) else none := rfl
theorem popAt_nat {xs : List D} {k : Nat} (h : k < xs.length) (h2 : k < 1000000) : gPopAt xs [dn k] = some (xs[k], xs.eraseIdx k) := by
  have h3 : (0 : Int) ≤ (k : Int) ∧ smallI (k : Int) = true := ⟨by omega, small_nat (by omega)⟩
  rw [dn, ev_gPopAt, if_pos h3, Int.toNat_natCast, List.getElem?_eq_getElem h, Option.map_some]
theorem range_split {n k : Nat} {a b : List Nat} (h : List.range n = a ++ k :: b) : a.length = k ∧ k < n ∧ a = List.range k := by
  have hl := congrArg List.length h
  simp at hl
  have h1 : (List.range n)[a.length]? = some k := by rw [h]; simp
  rw [List.getElem?_range (by omega)] at h1
  have e := Option.some.inj h1
  refine ⟨e, by omega, ?_⟩
  have h2 : (List.range n).take a.length = a := by rw [h]; simp
  rw [← h2, List.take_range, ← e, Nat.min_eq_left (by omega)]
/-- a comprehension over one name that changes nothing but that name -/
theorem dLc_pureW {i : Nat} {tt : EvB} {fe : Ev} {fi : EvI} {ρ : Rho} {it : ItR} {b : D → Bool} {y : D → D} (e : fi ρ = some (.ok it ρ true)) (hlen : i < ρ.length) (hi : immL it.items = true) (hdep : i ∉ it.deps) (hl : it.items.length ≤ LIM)
    (h : ∀ d ∈ it.items, tt (ρ.set i (some d)) = some (.ok (b d) (ρ.set i (some d)) true) ∧ (b d = true → fe (ρ.set i (some d)) = some (.ok (.own (y d)) (ρ.set i (some d)) true))) :
    dLc [i] (tName i) fi tt fe ρ = some (.ok (.own (.lst ((it.items.filter b).map y))) (ρ.set i none) true) := by
  have hd : (it.deps.all fun j => ![i].contains j) = true := by
    rw [List.all_eq_true]
    intro j hj
    simp only [List.contains_cons, List.contains_nil, Bool.or_false, Bool.not_eq_true', beq_eq_false_iff_ne]
    intro z; exact hdep (z ▸ hj)
  have hw : wipeR ρ [i] = ρ.set i none := rfl
  have hρ : (ρ.set i none)[i]? = some none := by rw [List.getElem?_set_self hlen]
  unfold dLc
  simp only [ev_bndI, e]
  rw [if_pos ⟨hi, hd⟩, hw, lc_pure hρ it.items [] (by simpa using hl) (fun d hd => by rw [List.set_set]; exact h d hd)]
  simp
/-! ### the drawn source -/
def srcK (cells : List Int) (left mixed turn : Int) : List (Key × D) := [(.inr "cells", .lst (cells.map .int)), (.inr "left", .int left), (.inr "mixed", .int mixed), (.inr "turn", .int turn)]
abbrev srcD (cells : List Int) (left mixed turn : Int) : D := .dic (srcK cells left mixed turn)
section
variable (c c' : List Int) (l m t v : Int)
@[simp] theorem src_c : getD (srcK c l m t) (.inr "cells") = some (.lst (c.map .int)) := rfl
@[simp] theorem src_l : getD (srcK c l m t) (.inr "left") = some (.int l) := rfl
@[simp] theorem src_m : getD (srcK c l m t) (.inr "mixed") = some (.int m) := rfl
@[simp] theorem src_t : getD (srcK c l m t) (.inr "turn") = some (.int t) := rfl
@[simp] theorem put_l : putD (srcK c l m t) (.inr "left") (.int v) = srcK c v m t := rfl
@[simp] theorem put_m : putD (srcK c l m t) (.inr "mixed") (.int v) = srcK c l v t := rfl
@[simp] theorem put_t : putD (srcK c l m t) (.inr "turn") (.int v) = srcK c l m v := rfl
@[simp] theorem mod_c : modD (srcK c l m t) (.inr "cells") (.lst (c'.map .int)) = srcK c' l m t := rfl
@[simp] theorem srcK_len : (srcK c l m t).length = 4 := rfl
end
structure IsSrc (d : D) : Prop where
  ex : ∃ cells left mixed turn, d = srcD cells left mixed turn ∧ (∀ x ∈ cells, 0 ≤ x) ∧ 0 ≤ left ∧ 0 ≤ mixed ∧ 0 ≤ turn ∧ cells.length ≤ 63
def sSource : Sv := dSeq (dAsg (tName 1) (dC (.int 11)))
    (dSeq (dFor [0] (tName 2) (dIter1 D.lis (dVar 0)) (dAsg (tName 1) (dOp gMod (dCB gInt (dCons (dOp gAdd (dOp gAdd (dOp gMul (dVar 1) (dC (.int 69069))) (dOp gMul (dVar 2) (dC (.int 31)))) (dC (.int 5))) (dNil))) (dC (.int 2147483629)))))
    (dRet (dDisp [(dC (.str "cells"), d1 gRev (dLc [2] (tName 2) (dIter1 D.lis (dVar 0)) (dYes) (dCB gAbs (dCons (dVar 2) (dNil))))), (dC (.str "left"), dC (.int 1)), (dC (.str "mixed"), dVar 1), (dC (.str "turn"), dC (.int 0))])))
def pSource : List D → Option FAns := defD 3 [false] sSource
def sPick : Sv := dSeq (dWhile (dAnd (dB (dOp gGt (dVar 1) (dC (.int 1)))) (dAnd (dB (dOp gLt (dIx gIxD (dVar 0) (dC (.str "left"))) (dC (.int 2)))) (dB (dOp gGt (dCB gLen (dCons (dIx gIxD (dVar 0) (dC (.str "cells"))) (dNil))) (dC (.int 0)))))) (dPut 0 (dC (.str "left")) (dPopK 0 (.inr "cells"))) 1000)
    (dSeq (dAsg (tName 2) (dIx gIxD (dVar 0) (dC (.str "left"))))
    (dSeq (dIfS (dOr (dB (dOp gLt (dVar 1) (dC (.int 2)))) (dB (dOp gGt (dVar 2) (dC (.int 1))))) (dSeq (dPut 0 (dC (.str "left")) (dOp gDiv (dVar 2) (dCB gMax (dCons (dC (.int 1)) (dCons (dVar 1) (dNil))))))
    (dRet (dOp gMod (dCB gInt (dCons (dVar 2) (dNil))) (dCB gMax (dCons (dC (.int 1)) (dCons (dVar 1) (dNil))))))) (dNil'))
    (dSeq (dPut 0 (dC (.str "turn")) (dOp gAdd (dIx gIxD (dVar 0) (dC (.str "turn"))) (dC (.int 1))))
    (dSeq (dAsg (tName 3) (dOp gMod (dCB gInt (dCons (dOp gAdd (dIx gIxD (dVar 0) (dC (.str "mixed"))) (dOp gMul (dIx gIxD (dVar 0) (dC (.str "turn"))) (dC (.int 104729)))) (dNil))) (dC (.int 998244353))))
    (dSeq (dAsg (tName 3) (dOp gMod (dCB gInt (dCons (dOp gAdd (dOp gMul (dVar 3) (dVar 3)) (dOp gMul (dIx gIxD (dVar 0) (dC (.str "turn"))) (dC (.int 17)))) (dNil))) (dC (.int 2147483647))))
    (dSeq (dPut 0 (dC (.str "mixed")) (dVar 3))
    (dRet (dOp gMod (dCB gInt (dCons (dOp gDiv (dVar 3) (dC (.int 16))) (dNil))) (dVar 1)))))))))
def pPick : List D → Option FAns := defD 4 [true, false] sPick
def sOf : Sv := dRet (dIx gIxL (dVar 1) (dCall pPick (dCons (dVar 0) (dCons (dCB gLen (dCons (dVar 1) (dNil))) (dNil)))))
def pOf : List D → Option FAns := defD 2 [true, false] sOf
def sMixed : Sv := dSeq (dAsg (tName 2) (dCB gLstOf (dCons (dVar 1) (dNil))))
    (dRet (dLc [3] (tName 3) (dIterL gRange1 (dCons (dCB gLen (dCons (dVar 2) (dNil))) (dNil))) (dYes) (dMtM gPopAt 2 (dCons (dCall pPick (dCons (dVar 0) (dCons (dCB gLen (dCons (dVar 2) (dNil))) (dNil)))) (dNil)))))
def pMixed : List D → Option FAns := defD 4 [true, false] sMixed
theorem srcD_ok {c : List Int} {l m t : Int} (h1 : ∀ x ∈ c, 0 ≤ x) (h2 : 0 ≤ l) (h3 : 0 ≤ m) (h4 : 0 ≤ t) (h5 : c.length ≤ 63) : IsSrc (srcD c l m t) := ⟨c, l, m, t, rfl, h1, h2, h3, h4, h5⟩
theorem pick_ok {d : D} (h : IsSrc d) (many : Int) (hm : many < 1000000) : ∃ r d', pPick [d, .int many] = some (.ok (.int r) [some d', none]) ∧ IsSrc d' ∧ 0 ≤ r ∧ (r < many ∨ (many ≤ 1 ∧ r = 0)) := by
  obtain ⟨cells, left, mixed, turn, rfl, hc, hl, hmi, ht, hcl⟩ := h.ex
  obtain ⟨ρ', e, c, left', rfl, hc, hl, hcl⟩ := while_rule
    (t := dAnd (dB (dOp gGt (dVar 1) (dC (.int 1)))) (dAnd (dB (dOp gLt (dIx gIxD (dVar 0) (dC (.str "left"))) (dC (.int 2)))) (dB (dOp gGt (dCB gLen (dCons (dIx gIxD (dVar 0) (dC (.str "cells"))) (dNil))) (dC (.int 0))))))
    (g := dPut 0 (dC (.str "left")) (dPopK 0 (.inr "cells")))
    (fun k ρ => ∃ cells left, ρ = [some (srcD cells left mixed turn), some (.int many), none, none] ∧ (∀ x ∈ cells, 0 ≤ x) ∧ 0 ≤ left ∧ cells.length ≤ 63 ∧ k = cells.length)
    (fun ρ => ∃ cells left, ρ = [some (srcD cells left mixed turn), some (.int many), none, none] ∧ (∀ x ∈ cells, 0 ≤ x) ∧ 0 ≤ left ∧ cells.length ≤ 63)
    (by
      rintro k ρ ⟨cells, left, rfl, hc, hl, hcl, rfl⟩
      refine ⟨decide (1 < many) && (decide (left < 2) && decide ((0 : Int) < cells.length)), [some (srcD cells left mixed turn), some (.int many), none, none], true, ?_, fun hb => ?_, fun _ => ⟨cells, left, rfl, hc, hl, hcl⟩⟩
      · by_cases h1 : 1 < many <;> by_cases h2 : left < 2 <;> simp [h1, h2]
      · have hne : cells ≠ [] := by
          rintro rfl
          simp at hb
        obtain ⟨r, x, rfl⟩ : ∃ r x, cells = r ++ [x] := ⟨cells.dropLast, cells.getLast hne, (List.dropLast_concat_getLast hne).symm⟩
        refine ⟨[some (srcD r x mixed turn), some (.int many), none, none], ?_, r.length, by simp, r, x, rfl, fun y hy => hc y (by simp [hy]), hc x (by simp), by simp at hcl; omega, rfl⟩
        have q1 : (((r ++ [x]).map D.int).getLast?) = some (.int x) := by simp
        have q2 : (((r ++ [x]).map D.int).dropLast) = r.map .int := by simp
        simp [-List.map_append, q1, q2, lim_eq])
    1000 cells.length [some (srcD cells left mixed turn), some (.int many), none, none] (by omega) ⟨cells, left, rfl, hc, hl, hcl, rfl⟩
  by_cases hb : many < 2 ∨ 1 < left'
  · have hbb : (decide (many < 2) || decide (1 < left')) = true := by simpa using hb
    generalize hz : (if many > 1 then many else (1 : Int)) = z
    have hpos : 0 < z := by rw [← hz]; split <;> omega
    have hpos2 : z < 1073741824 := by rw [← hz]; split <;> omega
    have o1 : okDiv left' z = true := by rw [okDiv_eq]; simp; exact ⟨hpos, hpos2⟩
    have o2 : okMod left' z = true := by rw [okMod_eq]; simpa using hpos
    refine ⟨left' % z, srcD c (left' / z) mixed turn, ?_, srcD_ok hc (Int.ediv_nonneg hl (by omega)) hmi ht hcl, Int.emod_nonneg _ (by omega), ?_⟩
    · have mx : gMax [.int 1, .int many] = some (.int z) := by rw [ev_gMax, hz]
      simp only [pPick, defD_eq, sPick]
      simp only [List.length_cons, List.length_nil, List.map_cons, List.map_nil, List.cons_append, List.nil_append, List.replicate, if_true]
      rw [ev_dSeq]
      simp only [e]
      clear e mx
      by_cases h2 : many < 2
      · simp [h2, hz, o1, o2, lim_eq]
      · have h3 : 1 < left' := by omega
        simp [h2, h3, hz, o1, o2, lim_eq]
    · have := Int.emod_lt_of_pos left' hpos
      by_cases h1 : many > 1
      · rw [if_pos h1] at hz; subst hz; exact .inl this
      · rw [if_neg h1] at hz; subst hz; exact .inr ⟨by omega, by omega⟩
  · have h2 : ¬ many < 2 := fun h => hb (.inl h)
    have h3 : ¬ 1 < left' := fun h => hb (.inr h)
    have hp : 0 < many := by omega
    generalize h4 : (mixed + (turn + 1) * 104729) % 998244353 = m1
    have b1 : 0 ≤ m1 ∧ m1 < 998244353 := by rw [← h4]; exact ⟨Int.emod_nonneg _ (by decide), Int.emod_lt_of_pos _ (by decide)⟩
    have o3 : okMul m1 m1 = true := by rw [okMul_eq]; simp; omega
    have o4 : ∀ x : Int, okMul x 104729 = true := fun x => by rw [okMul_eq]; simp
    have o5 : ∀ x : Int, okMul x 17 = true := fun x => by rw [okMul_eq]; simp
    have o6 : ∀ x : Int, okMod x 998244353 = true := fun x => by rw [okMod_eq]; simp
    have o7 : ∀ x : Int, okMod x 2147483647 = true := fun x => by rw [okMod_eq]; simp
    have o8 : ∀ x : Int, okDiv x 16 = true := fun x => by rw [okDiv_eq]; simp
    have o9 : ∀ x : Int, okMod x many = true := fun x => by rw [okMod_eq]; simpa using hp
    generalize h5 : (m1 * m1 + (turn + 1) * 17) % 2147483647 = m2
    have b2 : 0 ≤ m2 := by rw [← h5]; exact Int.emod_nonneg _ (by decide)
    refine ⟨m2 / 16 % many, srcD c left' m2 (turn + 1), ?_, srcD_ok hc hl b2 (by omega) hcl, Int.emod_nonneg _ (by omega), .inl (Int.emod_lt_of_pos _ hp)⟩
    simp only [pPick, defD_eq, sPick]
    simp only [List.length_cons, List.length_nil, List.map_cons, List.map_nil, List.cons_append, List.nil_append, List.replicate, if_true]
    rw [ev_dSeq]
    simp only [e]
    clear e
    simp [h2, h3, o4, o5, o6, o7, o8, o9, h4, o3, h5, lim_eq]
theorem of_ok {d : D} (h : IsSrc d) {xs : List D} (hx : xs ≠ []) (hi : immL xs = true) (hl : xs.length < 1000000) : ∃ y d', pOf [d, .lst xs] = some (.ok y [some d', none]) ∧ IsSrc d' ∧ y ∈ xs := by
  obtain ⟨r, d', e, hd', h0, h1⟩ := pick_ok h (xs.length : Int) (by omega)
  have hp : 0 < xs.length := List.length_pos_iff.mpr hx
  obtain ⟨r, rfl⟩ : ∃ k : Nat, r = (k : Int) := ⟨r.toNat, by omega⟩
  have hr : r < xs.length := by omega
  have ea : atI xs (r : Int) = some xs[r] := PD.atI_nat (by simp)
  refine ⟨xs[r], d', ?_, hd', List.getElem_mem _⟩
  have im : (xs[r]).imm = true := immL_iff.mp hi _ (List.getElem_mem _)
  obtain ⟨cells, left, mixed, turn, rfl, -⟩ := h.ex
  obtain ⟨cells', left', mixed', turn', rfl, -⟩ := hd'.ex
  simp [pOf, defD_eq, sOf, e, ea, im]
theorem getElem_cons_eraseIdx_perm {α : Type} : ∀ {l : List α} {i : Nat} (h : i < l.length), (l[i] :: l.eraseIdx i).Perm l
  | a :: r, 0, _ => .refl _
  | a :: r, i + 1, h => by
    have h' : i < r.length := by simpa using h
    have := getElem_cons_eraseIdx_perm h'
    simp only [List.getElem_cons_succ, List.eraseIdx_cons_succ]
    exact (List.Perm.swap _ _ _).trans (this.cons a)
theorem mixed_ok {d : D} (h : IsSrc d) {xs : List D} (hi : immL xs = true) (hl : xs.length < 1000) : ∃ ys d', pMixed [d, .lst xs] = some (.ok (.lst ys) [some d', none]) ∧ IsSrc d' ∧ ys.Perm xs := by
  have gr := range1_nat (n := xs.length) (by omega)
  simp only [dn] at gr
  obtain ⟨cells, left, mixed, turn, rfl, -⟩ := h.ex
  obtain ⟨ρ', acc', p', e, d', rest, rfl, hd', hl1, hp⟩ := dLc_map (vs := [3]) (tg := tName 3) (tt := dYes) (fe := dMtM gPopAt 2 (dCons (dCall pPick (dCons (dVar 0) (dCons (dCB gLen (dCons (dVar 2) (dNil))) (dNil)))) (dNil)))
    (fi := dIterL gRange1 (dCons (dCB gLen (dCons (dVar 2) (dNil))) (dNil))) (ρ := [some (srcD cells left mixed turn), some (.lst xs), some (.lst xs), none]) (ρ1 := [some (srcD cells left mixed turn), some (.lst xs), some (.lst xs), none]) (deps := [])
    (φ := fun k : Nat => dn k) (l := List.range xs.length) (p0 := true)
    (fun done ρ acc => ∃ d' rest, ρ = [some d', some (.lst xs), some (.lst rest), none] ∧ IsSrc d' ∧ done.length + rest.length = xs.length ∧ (acc ++ rest).Perm xs)
    (by simp [gr]) (by simp [dn]) (by simp) (fun _ _ _ _ => rfl) ⟨_, xs, rfl, h, by simp, by simp⟩ (by
      rintro a k b ρ acc hab ⟨d1, rest, rfl, h1, h2, h3⟩
      obtain ⟨hk1, hk, -⟩ := range_split hab
      obtain ⟨r, d2, e, hd2, r0, r1⟩ := pick_ok h1 (rest.length : Int) (by omega)
      have hrl : 0 < rest.length := by omega
      obtain ⟨r, rfl⟩ : ∃ k : Nat, r = (k : Int) := ⟨r.toNat, by omega⟩
      have hr : r < rest.length := by omega
      obtain ⟨cells1, left1, mixed1, turn1, rfl, -⟩ := h1.ex
      obtain ⟨cells2, left2, mixed2, turn2, rfl, -⟩ := hd2.ex
      have hp2 : (rest[r] :: rest.eraseIdx r).Perm rest := getElem_cons_eraseIdx_perm hr
      have hal : acc.length < LIM := by
        have := h3.length_eq
        rw [lim_eq]; rw [List.length_append] at this; omega
      refine ⟨_, rfl, .inl ⟨_, true, .own rest[r], [some (srcD cells2 left2 mixed2 turn2), some (.lst xs), some (.lst (rest.eraseIdx r)), some (dn k)], false, rest[r], _, rfl, ?_, rfl, hal, ?_⟩⟩
      · have pa := popAt_nat hr (by omega)
        simp only [dn] at pa
        simp [e, pa]
      · refine ⟨_, rest.eraseIdx r, rfl, hd2, ?_, ?_⟩
        · rw [List.length_append, List.length_eraseIdx_of_lt hr]; simp; omega
        · rw [List.append_assoc]
          exact (hp2.append_left acc).trans h3)
  have hr0 : rest = [] := by
    rw [List.length_range] at hl1
    exact List.length_eq_zero_iff.mp (by omega)
  subst hr0
  rw [List.append_nil] at hp
  refine ⟨acc', d', ?_, hd', hp⟩
  obtain ⟨cells', left', mixed', turn', rfl, -⟩ := hd'.ex
  simp [pMixed, defD_eq, sMixed, hi, e]
theorem source_ok {ns : List Int} (hn : ns.length ≤ 63) : ∃ d, pSource [.fls (ns.map .int)] = some (.ok d [none]) ∧ IsSrc d := by
  obtain ⟨ρ', e, m, x, rfl, hm⟩ := for_mapped (tg := tName 2) (g := dAsg (tName 1) (dOp gMod (dCB gInt (dCons (dOp gAdd (dOp gAdd (dOp gMul (dVar 1) (dC (.int 69069))) (dOp gMul (dVar 2) (dC (.int 31)))) (dC (.int 5))) (dNil))) (dC (.int 2147483629))))
    (deps := []) (ρ0 := [some (.fls (ns.map .int)), some (.int 11), none]) (φ := D.int) (l := ns) (ρ := [some (.fls (ns.map .int)), some (.int 11), none])
    (fun _ ρ => ∃ (m : Int) (x : Option D), ρ = [some (.fls (ns.map .int)), some (.int m), x] ∧ 0 ≤ m) (fun _ _ _ => rfl) ⟨11, none, rfl, by decide⟩ (by
      rintro a z b ρ hl ⟨m, x, rfl, hm⟩
      have o1 : ∀ x : Int, okMul x 69069 = true := fun x => by rw [okMul_eq]; simp
      have o2 : ∀ x : Int, okMul x 31 = true := fun x => by rw [okMul_eq]; simp
      have o3 : ∀ x : Int, okMod x 2147483629 = true := fun x => by rw [okMod_eq]; simp
      exact ⟨_, [_, some (.int ((m * 69069 + z * 31 + 5) % 2147483629)), some (.int z)], rfl, .inl (by simp [o1, o2, o3]), _, _, rfl, Int.emod_nonneg _ (by decide)⟩)
  have hc := dLc_pureW (i := 2) (tt := dYes) (fe := dCB gAbs (dCons (dVar 2) (dNil))) (fi := dIter1 D.lis (dVar 0)) (ρ := [some (.fls (ns.map .int)), some (.int m), x]) (it := ⟨ns.map .int, [], false⟩) (b := fun _ => true)
    (y := fun d => match d with | .int z => .int (if z < 0 then -z else z) | _ => .non) (by simp) (by simp) (by simp) (by simp) (by rw [List.length_map, lim_eq]; omega) (fun d hd => by
      obtain ⟨z, _, rfl⟩ := List.mem_map.mp hd
      exact ⟨rfl, fun _ => by simp⟩)
  have e2 : (List.filter (fun _ => true) (ns.map D.int)).map (fun d => match d with | .int z => D.int (if z < 0 then -z else z) | _ => .non) = (ns.map fun z => if z < 0 then -z else z).map D.int := by
    rw [List.filter_eq_self.mpr (fun _ _ => rfl), List.map_map, List.map_map]; rfl
  rw [e2] at hc
  refine ⟨srcD (ns.map fun z => if z < 0 then -z else z).reverse 1 m 0, ?_, srcD_ok (fun x hx => ?_) (by decide) hm (by decide) (by simpa using hn)⟩
  · simp only [pSource, defD_eq, sSource]
    simp only [List.length_cons, List.length_nil, List.map_cons, List.map_nil, List.cons_append, List.nil_append, List.replicate, if_true]
    have k1 : ¬ PySem.Str.ofString "cells" = PySem.Str.ofString "left" := by decide
    have k2 : ¬ PySem.Str.ofString "cells" = PySem.Str.ofString "mixed" := by decide
    have k3 : ¬ PySem.Str.ofString "cells" = PySem.Str.ofString "turn" := by decide
    have k4 : ¬ PySem.Str.ofString "left" = PySem.Str.ofString "mixed" := by decide
    have k5 : ¬ PySem.Str.ofString "left" = PySem.Str.ofString "turn" := by decide
    have k6 : ¬ PySem.Str.ofString "mixed" = PySem.Str.ofString "turn" := by decide
    simp [e, hc, gRev, D.lis, D.key, srcK, List.map_reverse, k1, k2, k3, k4, k5, k6]
  · simp at hx
    obtain ⟨z, _, rfl⟩ := hx
    split <;> omega
end PD
end
end
section
set_option Elab.async false
set_option linter.all false
set_option maxRecDepth 100000
noncomputable section
/-! How long the texts of trees are; trees that can be told. -/
namespace PD
open PySem PySem.PyData L2
theorem okS_append {x y : Str} (hx : strOk x = true) (hy : strOk y = true) : strOk (x ++ y) = true := by
  show ((x.cps ++ y.cps).all fun c => decide (c < 0x110000)) = true
  rw [Array.all_append]
  exact Bool.and_eq_true_iff.mpr ⟨hx, hy⟩
theorem okS_ofString (s : String) : strOk (Str.ofString s) = true := by
  unfold strOk
  rw [Str.ofString_eq_toList]
  simp only [List.all_toArray, List.all_map, List.all_eq_true]
  intro c _
  simp only [Function.comp, decide_eq_true_eq]
  have := c.valid
  show c.val.toNat < 0x110000
  rcases this with h | h
  · have : c.val.toNat < 0xd800 := h
    omega
  · exact h.2
theorem int_len {i : Int} (h : i.natAbs < 10 ^ 18) : (Str.ofString (toString i)).length ≤ 19 := by
  rw [PyProof.Rows.ofString_length]
  cases i with
  | ofNat m =>
    have e : toString (Int.ofNat m) = Nat.repr m := rfl
    rw [e]
    have := PySem.Flt.repr_len (k := 18) (by decide) (show m < 10 ^ 18 from h)
    omega
  | negSucc m =>
    have e : toString (Int.negSucc m) = "-" ++ Nat.repr (m + 1) := rfl
    rw [e]
    have := PySem.Flt.repr_len (k := 18) (by decide) (show m + 1 < 10 ^ 18 from h)
    simp only [String.toList_append, List.length_append]
    have : ("-" : String).toList.length = 1 := rfl
    omega
mutual
/-- can be told -/
def D.rOk : D → Bool
  | .non => true
  | .bl _ => true
  | .int i => decide (i.natAbs.log2 < 59)
  | .str x => strOk x && strOk (reprText x)
  | .tup xs => rOkL xs
  | .lst xs => rOkL xs
  | .fls xs => rOkL xs
  | .dic _ => false
def rOkL : List D → Bool
  | [] => true
  | x :: r => D.rOk x && rOkL r
end
mutual
/-- .. in so many letters at most -/
def D.rLen : D → Nat
  | .non => 4
  | .bl _ => 5
  | .int i => 19
  | .str x => (reprText x).length
  | .tup xs => 5 + rLenL xs
  | .lst xs => 5 + rLenL xs
  | .fls xs => 5 + rLenL xs
  | .dic _ => 0
def rLenL : List D → Nat
  | [] => 0
  | x :: r => D.rLen x + 2 + rLenL r
end
theorem tell_list (ts : List Str) : (listText ts).length ≤ 5 + (ts.map fun t => t.length + 2).sum ∧ ((∀ t ∈ ts, strOk t = true) → strOk (listText ts) = true) := by
  have key : ∀ (ts : List Str) (k : Nat) (acc : Str), (textFrom k acc ts).length ≤ acc.length + (ts.map fun t => t.length + 2).sum ∧ (strOk acc = true → (∀ t ∈ ts, strOk t = true) → strOk (textFrom k acc ts) = true) := by
    intro ts
    induction ts with
    | nil => intro k acc; exact ⟨by simp [textFrom], fun h _ => h⟩
    | cons t r ih =>
      intro k acc
      obtain ⟨h1, h2⟩ := ih (k + 1) (acc ++ (if k > 0 then ", " else "" : String) ++ t)
      have e : (acc ++ (if k > 0 then ", " else "" : String) ++ t).length ≤ acc.length + 2 + t.length := by
        rw [strLen_append, strLen_append]
        split
        · have : ((", " : String) : Str).length = 2 := rfl
          omega
        · have : (("" : String) : Str).length = 0 := rfl
          omega
      refine ⟨?_, fun ha ht => ?_⟩
      · show (textFrom (k + 1) _ r).length ≤ _
        rw [List.map_cons, List.sum_cons]; omega
      · exact h2 (okS_append (okS_append ha (okS_ofString _)) (ht t (by simp))) fun u hu => ht u (by simp [hu])
  obtain ⟨h1, h2⟩ := key ts 0 ("[" : String)
  have e1 : (("[" : String) : Str).length = 1 := rfl
  have e2 : (("]" : String) : Str).length = 1 := rfl
  refine ⟨?_, fun h => okS_append (h2 (okS_ofString _) h) (okS_ofString _)⟩
  show (textFrom 0 ("[" : String) ts ++ (("]" : String) : Str)).length ≤ _
  rw [strLen_append]; omega
theorem tell_tup (ts : List Str) : (tupleText ts).length ≤ 5 + (ts.map fun t => t.length + 2).sum ∧ ((∀ t ∈ ts, strOk t = true) → strOk (tupleText ts) = true) := by
  have key : ∀ ts : List Str, (Str.join ", " ts).length ≤ (ts.map fun t => t.length + 2).sum ∧ ((∀ t ∈ ts, strOk t = true) → strOk (Str.join ", " ts) = true) := by
    intro ts
    induction ts with
    | nil => exact ⟨Nat.le_refl _, fun _ => by decide +kernel⟩
    | cons t r ih =>
      cases r with
      | nil => exact ⟨by show t.length ≤ _; simp, fun h => h t (by simp)⟩
      | cons u r =>
        refine ⟨?_, fun h => ?_⟩
        · show (t ++ ((", " : String) : Str) ++ Str.join ", " (u :: r)).length ≤ _
          rw [strLen_append, strLen_append, List.map_cons, List.sum_cons]
          have : ((", " : String) : Str).length = 2 := rfl
          have := ih.1
          omega
        · exact okS_append (okS_append (h t (by simp)) (okS_ofString _)) (ih.2 fun x hx => h x (List.mem_cons_of_mem _ hx))
  obtain ⟨h1, h2⟩ := key ts
  unfold tupleText
  refine ⟨?_, fun h => okS_append (okS_append (okS_ofString _) (h2 h)) (okS_ofString _)⟩
  rw [strLen_append, strLen_append]
  have e1 : (("(" : String) : Str).length = 1 := rfl
  have e2 : ((if (ts.length == 1) = true then ",)" else ")" : String) : Str).length ≤ 2 := by split <;> decide
  omega
theorem log_lt {n : Nat} (h : n.log2 < 59) : n < 10 ^ 18 := by
  have h1 := Nat.lt_log2_self (n := n)
  have : 2 ^ (n.log2 + 1) ≤ 2 ^ 59 := Nat.pow_le_pow_right (by decide) (by omega)
  have : (2 : Nat) ^ 59 ≤ 10 ^ 18 := by decide
  omega
mutual
theorem D.told : ∀ d : D, d.rOk = true → (toP d).canLay0 = true ∧ (toP d).showable = true ∧ (toP d).shown.length ≤ d.rLen ∧ strOk (toP d).shown = true
  | .non, _ => ⟨rfl, rfl, by decide, okS_ofString _⟩
  | .bl b, _ => by cases b <;> exact ⟨rfl, rfl, by decide, okS_ofString _⟩
  | .int i, h => by
    have h : i.natAbs.log2 < 59 := by simpa [D.rOk] using h
    refine ⟨rfl, ?_, ?_, ?_⟩
    · simp only [toP, PyData.showable, decide_eq_true_eq]; omega
    · exact int_len (log_lt h)
    · exact okS_ofString _
  | .str x, h => by
    have h : strOk x = true ∧ strOk (reprText x) = true := by simpa [D.rOk] using h
    exact ⟨by simpa [toP, PyData.canLay0] using h.1, by simp [toP, PyData.showable], Nat.le_refl _, h.2⟩
  | .tup xs, h => by
    obtain ⟨h1, h2, h3, h4⟩ := toldL xs (by simpa [D.rOk] using h)
    obtain ⟨a, b⟩ := tell_tup (PyData.shownAll (toPL xs))
    refine ⟨by simpa [toP, PyData.canLay0] using h1, by simpa [toP, PyData.showable] using h2, ?_, ?_⟩
    · simp only [toP, PyData.shown, D.rLen]; omega
    · simp only [toP, PyData.shown]; exact b h4
  | .lst xs, h => by
    obtain ⟨h1, h2, h3, h4⟩ := toldL xs (by simpa [D.rOk] using h)
    obtain ⟨a, b⟩ := tell_list (PyData.shownAll (toPL xs))
    refine ⟨by simpa [toP, PyData.canLay0] using h1, by simpa [toP, PyData.showable] using h2, ?_, ?_⟩
    · simp only [toP, PyData.shown, D.rLen]; omega
    · simp only [toP, PyData.shown]; exact b h4
  | .fls xs, h => by
    obtain ⟨h1, h2, h3, h4⟩ := toldL xs (by simpa [D.rOk] using h)
    obtain ⟨a, b⟩ := tell_list (PyData.shownAll (toPL xs))
    refine ⟨by simpa [toP, PyData.canLay0] using h1, by simpa [toP, PyData.showable] using h2, ?_, ?_⟩
    · simp only [toP, PyData.shown, D.rLen]; omega
    · simp only [toP, PyData.shown]; exact b h4
  | .dic _, h => by simp [D.rOk] at h
theorem toldL : ∀ xs : List D, rOkL xs = true → PyData.canLayAll0 (toPL xs) = true ∧ PyData.showableAll (toPL xs) = true ∧ ((PyData.shownAll (toPL xs)).map fun t => t.length + 2).sum ≤ rLenL xs ∧ ∀ t ∈ PyData.shownAll (toPL xs), strOk t = true
  | [], _ => ⟨rfl, rfl, Nat.le_refl _, fun t h => nomatch h⟩
  | x :: r, h => by
    obtain ⟨hx, hr⟩ : x.rOk = true ∧ rOkL r = true := by simpa [rOkL] using h
    obtain ⟨a1, a2, a3, a4⟩ := D.told x hx
    obtain ⟨b1, b2, b3, b4⟩ := toldL r hr
    refine ⟨by simp [toPL, PyData.canLayAll0, a1, b1], by simp [toPL, PyData.showableAll, a2, b2], ?_, ?_⟩
    · simp only [toPL, PyData.shownAll, List.map_cons, List.sum_cons, rLenL]; omega
    · intro t ht
      simp only [toPL, PyData.shownAll, List.mem_cons] at ht
      rcases ht with rfl | ht
      · exact a4
      · exact b4 t ht
end
theorem eqv_str (x : Str) : PyData.eqv (.str x) (.str x) = true := by
  show (x == x) = true
  simp
/-- the text of a tree, and that it is equal to itself -/
theorem repr_ok {d : D} (h : d.rOk = true) (hl : d.rLen ≤ 100000) (hd : (toP d).depth ≤ 60) : ∃ s, gRepr [d] = some (.str s) ∧ gEq (.str s) (.str s) = some (.bl true) ∧ gNe (.str s) (.str s) = some (.bl false) := by
  obtain ⟨h1, h2, h3, h4⟩ := D.told d h
  have h5 : (toP d).shown.length ≤ LIM := by rw [lim_eq]; omega
  refine ⟨(toP d).shown, ?_, ?_, ?_⟩
  · unfold gRepr
    simp [h1, h2, hd, h5]
  · have hs : SeqAt.shaped (toP (.str (toP d).shown)) = true := by
      simp [SeqAt.shaped, toP, PyData.canLay0, h4, PyData.depth]
    unfold gEq
    rw [hs]
    simp [toP, eqv_str]
  · have hs : SeqAt.shaped (toP (.str (toP d).shown)) = true := by
      simp [SeqAt.shaped, toP, PyData.canLay0, h4, PyData.depth]
    unfold gNe
    rw [hs]
    simp [toP, eqv_str]
end PD
end
end
section
set_option Elab.async false
set_option linter.all false
set_option maxRecDepth 100000
set_option maxHeartbeats 4000000
/-! Printed by gen.py from the law's text: what each def does to trees, and that it does so. -/
namespace L47
open PySem PySem.Spec PyProof.Rows L2 PD
def top (i : Nat) : Stmt := PySem.Challenge.pw_anysequence_k47_modes_that_come_again.main.body.getD i (.Pass ⟨0, 0, 0, 0⟩)
abbrev s_nothing : Stmt := top 4
abbrev s_added : Stmt := top 5
abbrev s_taken_off : Stmt := top 6
abbrev s_times : Stmt := top 7
abbrev s_modes_behind : Stmt := top 9
abbrev s_modes_come_to : Stmt := top 10
abbrev s_wire_line : Stmt := top 12
abbrev s_slope_at : Stmt := top 13
abbrev s_led_by : Stmt := top 14
abbrev s_led : Stmt := top 15
abbrev s_need_rest : Stmt := top 17
abbrev s_home_input : Stmt := top 18
abbrev s_home_mode : Stmt := top 19
abbrev s_modes_again : Stmt := top 20
abbrev s__law_source : Stmt := top 22
abbrev s__law_pick : Stmt := top 23
abbrev s__law_of : Stmt := top 24
abbrev s__law_mixed : Stmt := top 25
abbrev s__law_grid : Stmt := top 26
abbrev s__law_summed : Stmt := top 27
abbrev s__law_modes : Stmt := top 28
abbrev s__law_again : Stmt := top 29
abbrev s__law_line : Stmt := top 30
abbrev s__law_home : Stmt := top 31
abbrev s__law_led : Stmt := top 32
abbrev s__law_heard : Stmt := top 33
abbrev s__law_group_right : Stmt := top 34
abbrev s__law_never_right : Stmt := top 35
abbrev s_law : Stmt := top 36
structure Fx (K : PySem.W.Frag) (mg : Str → Option Value) where
  fA : Nat → Addr
  fD : Nat → FuncData
  ok_nothing : FunP K "nothing" s_nothing (fA 0) (fD 0)
  g_nothing : mg "nothing" = some (.ref (fA 0))
  ok_added : FunP K "added" s_added (fA 1) (fD 1)
  g_added : mg "added" = some (.ref (fA 1))
  ok_taken_off : FunP K "taken_off" s_taken_off (fA 2) (fD 2)
  g_taken_off : mg "taken_off" = some (.ref (fA 2))
  ok_times : FunP K "times" s_times (fA 3) (fD 3)
  g_times : mg "times" = some (.ref (fA 3))
  ok_modes_behind : FunP K "modes_behind" s_modes_behind (fA 4) (fD 4)
  g_modes_behind : mg "modes_behind" = some (.ref (fA 4))
  ok_modes_come_to : FunP K "modes_come_to" s_modes_come_to (fA 5) (fD 5)
  g_modes_come_to : mg "modes_come_to" = some (.ref (fA 5))
  ok_wire_line : FunP K "wire_line" s_wire_line (fA 6) (fD 6)
  g_wire_line : mg "wire_line" = some (.ref (fA 6))
  ok_slope_at : FunP K "slope_at" s_slope_at (fA 7) (fD 7)
  g_slope_at : mg "slope_at" = some (.ref (fA 7))
  ok_led_by : FunP K "led_by" s_led_by (fA 8) (fD 8)
  g_led_by : mg "led_by" = some (.ref (fA 8))
  ok_led : FunP K "led" s_led (fA 9) (fD 9)
  g_led : mg "led" = some (.ref (fA 9))
  ok_need_rest : FunP K "need_rest" s_need_rest (fA 10) (fD 10)
  g_need_rest : mg "need_rest" = some (.ref (fA 10))
  ok_home_input : FunP K "home_input" s_home_input (fA 11) (fD 11)
  g_home_input : mg "home_input" = some (.ref (fA 11))
  ok_home_mode : FunP K "home_mode" s_home_mode (fA 12) (fD 12)
  g_home_mode : mg "home_mode" = some (.ref (fA 12))
  ok_modes_again : FunP K "modes_again" s_modes_again (fA 13) (fD 13)
  g_modes_again : mg "modes_again" = some (.ref (fA 13))
  ok__law_source : FunP K "_law_source" s__law_source (fA 14) (fD 14)
  g__law_source : mg "_law_source" = some (.ref (fA 14))
  ok__law_pick : FunP K "_law_pick" s__law_pick (fA 15) (fD 15)
  g__law_pick : mg "_law_pick" = some (.ref (fA 15))
  ok__law_of : FunP K "_law_of" s__law_of (fA 16) (fD 16)
  g__law_of : mg "_law_of" = some (.ref (fA 16))
  ok__law_mixed : FunP K "_law_mixed" s__law_mixed (fA 17) (fD 17)
  g__law_mixed : mg "_law_mixed" = some (.ref (fA 17))
  ok__law_grid : FunP K "_law_grid" s__law_grid (fA 18) (fD 18)
  g__law_grid : mg "_law_grid" = some (.ref (fA 18))
  ok__law_summed : FunP K "_law_summed" s__law_summed (fA 19) (fD 19)
  g__law_summed : mg "_law_summed" = some (.ref (fA 19))
  ok__law_modes : FunP K "_law_modes" s__law_modes (fA 20) (fD 20)
  g__law_modes : mg "_law_modes" = some (.ref (fA 20))
  ok__law_again : FunP K "_law_again" s__law_again (fA 21) (fD 21)
  g__law_again : mg "_law_again" = some (.ref (fA 21))
  ok__law_line : FunP K "_law_line" s__law_line (fA 22) (fD 22)
  g__law_line : mg "_law_line" = some (.ref (fA 22))
  ok__law_home : FunP K "_law_home" s__law_home (fA 23) (fD 23)
  g__law_home : mg "_law_home" = some (.ref (fA 23))
  ok__law_led : FunP K "_law_led" s__law_led (fA 24) (fD 24)
  g__law_led : mg "_law_led" = some (.ref (fA 24))
  ok__law_heard : FunP K "_law_heard" s__law_heard (fA 25) (fD 25)
  g__law_heard : mg "_law_heard" = some (.ref (fA 25))
  ok__law_group_right : FunP K "_law_group_right" s__law_group_right (fA 26) (fD 26)
  g__law_group_right : mg "_law_group_right" = some (.ref (fA 26))
  ok__law_never_right : FunP K "_law_never_right" s__law_never_right (fA 27) (fD 27)
  g__law_never_right : mg "_law_never_right" = some (.ref (fA 27))
  ok_law : FunP K "law" s_law (fA 28) (fD 28)
  g_law : mg "law" = some (.ref (fA 28))
  b_abs : mg "abs" = none
  b_dict : mg "dict" = none
  b_enumerate : mg "enumerate" = none
  b_int : mg "int" = none
  b_len : mg "len" = none
  b_list : mg "list" = none
  b_max : mg "max" = none
  b_range : mg "range" = none
  b_repr : mg "repr" = none
  b_sorted : mg "sorted" = none
  b_tuple : mg "tuple" = none
  b_zip : mg "zip" = none
  C : Addr
  x_NotOfIt : ExcC K mg "NotOfIt" C
  m_NotOfIt : PySem.W.exmOne K (.ref C) (.ref C) = some true
  tC__law_never_right : Addr
  tP__law_never_right : Addr
  co__law_never_right : (fD 27).code = .ref tC__law_never_right
structure Lx [Tbs] {K : PySem.W.Frag} {mg : Str → Option Value} (Z : Fx K mg) (base : Heap) : Prop where
  ok : True
  tb__law_never_right : LamX.TabB base mg Z.tC__law_never_right Z.tP__law_never_right
  m__law_never_right : (Z.tP__law_never_right, lamQ (("_law_never_right" : Str) ++ ".<locals>.")) ∈ Tbs.T
  u__law_never_right : ∀ p ∈ Tbs.T, p.1 = Z.tP__law_never_right → p.2 = lamQ (("_law_never_right" : Str) ++ ".<locals>.")
/-! ### what each def does -/
noncomputable def g_nothing : Sv := dRet (dOp gRepT (dTup (dCons (dC (.int 0)) (dNil))) (dVar 0))
noncomputable def p_nothing : List D → Option FAns := defD 1 [false] g_nothing
noncomputable def g_added : Sv := dRet (dCB gTupOf (dCons (dLc [2, 3] (tTupG 2 (tsCons (tName 2) (tsCons (tName 3) (tsNil)))) (dIterL gZipS (dCons (dVar 0) (dCons (dVar 1) (dNil)))) (dYes) (dOp gAdd (dVar 2) (dVar 3))) (dNil)))
noncomputable def p_added : List D → Option FAns := defD 4 [false, false] g_added
noncomputable def g_taken_off : Sv := dRet (dCB gTupOf (dCons (dLc [2, 3] (tTupG 2 (tsCons (tName 2) (tsCons (tName 3) (tsNil)))) (dIterL gZipS (dCons (dVar 0) (dCons (dVar 1) (dNil)))) (dYes) (dOp gSub (dVar 2) (dVar 3))) (dNil)))
noncomputable def p_taken_off : List D → Option FAns := defD 4 [false, false] g_taken_off
noncomputable def g_times : Sv := dRet (dCB gTupOf (dCons (dLc [2] (tName 2) (dIter1 tupI (dVar 0)) (dYes) (dOp gMul (dVar 2) (dVar 1))) (dNil)))
noncomputable def p_times : List D → Option FAns := defD 3 [false, false] g_times
noncomputable def g_modes_behind : Sv := dRet (dLc [2] (tName 2) (dIter1 tupI (dIx gIxT (dIx gIxT (dVar 0) (dC (.int 2))) (dVar 1))) (dB (dOp (gIsN true) (dVar 2) (dC .non))) (dIx gIxT (dVar 2) (dC (.int 0))))
noncomputable def p_modes_behind : List D → Option FAns := defD 3 [false, false] g_modes_behind
noncomputable def g_modes_come_to : Sv := dSeq (dPar 1 2 (dCons (dLst (dCons (dC (.int 0)) (dNil))) (dCons (dDisp [(dC (.int 0), dC (.bl true))]) (dNil))))
    (dSeq (dAsg (tName 3) (dC (.int 0)))
    (dSeq (dWhile (dB (dOp gLt (dVar 3) (dCB gLen (dCons (dVar 1) (dNil))))) (dSeq (dFor [] (tName 4) (dIter1 D.lis (dCall p_modes_behind (dCons (dVar 0) (dCons (dIx gIxL (dVar 1) (dVar 3)) (dNil))))) (dIfS (dB (dOp (gInD true) (dVar 4) (dVar 2))) (dSeq (dPut 2 (dVar 4) (dC (.bl true)))
    (dExp (dMtM gApp 1 (dCons (dVar 4) (dNil))))) (dNil')))
    (dAugI (fun i j => i + j) 3 (dC (.int 1)))) 1000)
    (dRet (dCB gTupOf (dCons (dVar 1) (dNil))))))
noncomputable def p_modes_come_to : List D → Option FAns := defD 5 [false] g_modes_come_to
noncomputable def g_wire_line : Sv := dSeq (dPar3 3 4 5 (dCons (dLst (dCons (dVar 1) (dNil))) (dCons (dLst (dCons (dCall p_nothing (dCons (dIx gIxT (dVar 0) (dC (.int 1))) (dNil))) (dNil))) (dCons (dDisp [(dVar 1, dC (.int 0))]) (dNil)))))
    (dSeq (dAsg (tName 6) (dIx gIxT (dIx gIxT (dIx gIxT (dVar 0) (dC (.int 2))) (dVar 1)) (dVar 2)))
    (dSeq (dWhile (dAnd (dB (dOp (gIsN true) (dVar 6) (dC .non))) (dB (dOp (gInD true) (dIx gIxT (dVar 6) (dC (.int 0))) (dVar 5)))) (dSeq (dPut 5 (dIx gIxT (dVar 6) (dC (.int 0))) (dCB gLen (dCons (dVar 3) (dNil))))
    (dSeq (dExp (dMtM gApp 3 (dCons (dIx gIxT (dVar 6) (dC (.int 0))) (dNil))))
    (dSeq (dExp (dMtM gApp 4 (dCons (dCall p_added (dCons (dIx gIxL (dVar 4) (d1 gNeg (dC (.int 1)))) (dCons (dIx gIxT (dVar 6) (dC (.int 1))) (dNil)))) (dNil))))
    (dAsg (tName 6) (dIx gIxT (dIx gIxT (dIx gIxT (dVar 0) (dC (.int 2))) (dIx gIxT (dVar 6) (dC (.int 0)))) (dVar 2)))))) 1000)
    (dRet (dTup (dCons (dCB gTupOf (dCons (dVar 3) (dNil))) (dCons (dCB gTupOf (dCons (dVar 4) (dNil))) (dCons (dIf (dB (dOp (gIsN true) (dVar 6) (dC .non))) (dIx gIxD (dVar 5) (dIx gIxT (dVar 6) (dC (.int 0)))) (dC .non)) (dNil))))))))
noncomputable def p_wire_line : List D → Option FAns := defD 7 [false, false, false] g_wire_line
noncomputable def g_slope_at : Sv := dSeq (dAsg (tTupG 3 (tsCons (tName 3) (tsCons (tName 4) (tsCons (tName 5) (tsNil))))) (dCall p_wire_line (dCons (dVar 0) (dCons (dVar 1) (dCons (dVar 2) (dNil))))))
    (dSeq (dIfS (dB (dOp (gIsN false) (dVar 5) (dC .non))) (dRet (dC .non)) (dNil'))
    (dSeq (dAsg (tName 6) (dIx gIxT (dIx gIxT (dIx gIxT (dVar 0) (dC (.int 2))) (dIx gIxT (dVar 3) (d1 gNeg (dC (.int 1))))) (dVar 2)))
    (dRet (dTup (dCons (dVar 5) (dCons (dOp gSub (dCB gLen (dCons (dVar 3) (dNil))) (dVar 5)) (dCons (dCall p_taken_off (dCons (dCall p_added (dCons (dIx gIxT (dVar 4) (d1 gNeg (dC (.int 1)))) (dCons (dIx gIxT (dVar 6) (dC (.int 1))) (dNil)))) (dCons (dIx gIxT (dVar 4) (dVar 5)) (dNil)))) (dNil))))))))
noncomputable def p_slope_at : List D → Option FAns := defD 7 [false, false, false] g_slope_at
noncomputable def g_led_by : Sv := dSeq (dAsg (tTupG 3 (tsCons (tName 4) (tsCons (tName 5) (tsCons (tName 6) (tsNil))))) (dCall p_wire_line (dCons (dVar 0) (dCons (dVar 1) (dCons (dVar 2) (dNil))))))
    (dSeq (dIfS (dB (dOp gLt (dVar 3) (dCB gLen (dCons (dVar 4) (dNil))))) (dRet (dTup (dCons (dIx gIxT (dVar 4) (dVar 3)) (dCons (dIx gIxT (dVar 5) (dVar 3)) (dNil))))) (dNil'))
    (dSeq (dIfS (dB (dOp (gIsN false) (dVar 6) (dC .non))) (dRet (dC .non)) (dNil'))
    (dSeq (dAsg (tTupG 3 (tsCons (tName 7) (tsCons (tName 8) (tsCons (tName 9) (tsNil))))) (dCall p_slope_at (dCons (dVar 0) (dCons (dVar 1) (dCons (dVar 2) (dNil))))))
    (dSeq (dAsg (tName 10) (dOp gDiv (dOp gSub (dVar 3) (dVar 7)) (dVar 8)))
    (dSeq (dAsg (tName 11) (dOp gSub (dVar 3) (dOp gMul (dVar 10) (dVar 8))))
    (dRet (dTup (dCons (dIx gIxT (dVar 4) (dVar 11)) (dCons (dCall p_added (dCons (dIx gIxT (dVar 5) (dVar 11)) (dCons (dCall p_times (dCons (dVar 9) (dCons (dVar 10) (dNil)))) (dNil)))) (dNil))))))))))
noncomputable def p_led_by : List D → Option FAns := defD 12 [false, false, false, false] g_led_by
noncomputable def g_led : Sv := dSeq (dPar 3 4 (dCons (dVar 1) (dCons (dCall p_nothing (dCons (dIx gIxT (dVar 0) (dC (.int 1))) (dNil))) (dNil))))
    (dSeq (dFor [] (tTupG 2 (tsCons (tName 5) (tsCons (tName 6) (tsNil)))) (dIterL gEnumT (dCons (dVar 2) (dNil))) (dSeq (dAsg (tName 7) (dCall p_led_by (dCons (dVar 0) (dCons (dVar 3) (dCons (dVar 5) (dCons (dVar 6) (dNil)))))))
    (dSeq (dIfS (dB (dOp (gIsN false) (dVar 7) (dC .non))) (dRet (dC .non)) (dNil'))
    (dPar 3 4 (dCons (dIx gIxT (dVar 7) (dC (.int 0))) (dCons (dCall p_added (dCons (dVar 4) (dCons (dIx gIxT (dVar 7) (dC (.int 1))) (dNil)))) (dNil)))))))
    (dRet (dTup (dCons (dVar 3) (dCons (dVar 4) (dNil))))))
noncomputable def p_led : List D → Option FAns := defD 8 [false, false, false] g_led
noncomputable def g_need_rest (c : Value) : Sv := dFor [] (tName 1) (dIter1 tupI (dCall p_modes_come_to (dCons (dVar 0) (dNil)))) (dIfS (dB (dOp (gInN false) (dC .non) (dIx gIxT (dIx gIxT (dVar 0) (dC (.int 2))) (dVar 1)))) (dRaise c) (dNil'))
noncomputable def p_need_rest (c : Value) : List D → Option FAns := defD 2 [false] (g_need_rest c)
noncomputable def g_home_input (c : Value) : Sv := dSeq (dExp (dCall (p_need_rest c) (dCons (dVar 0) (dNil))))
    (dSeq (dAsg (tName 1) (dLst (dNil)))
    (dSeq (dFor [] (tName 2) (dIterL gRange1 (dCons (dIx gIxT (dVar 0) (dC (.int 0))) (dNil))) (dSeq (dAsg (tTupG 3 (tsCons (tName 3) (tsCons (tName 4) (tsCons (tName 5) (tsNil))))) (dCall p_slope_at (dCons (dVar 0) (dCons (dC (.int 0)) (dCons (dVar 2) (dNil))))))
    (dExp (dMtM gApp 1 (dCons (dOp gMul (dOp gDiv (dOp gSub (dOp gAdd (dVar 3) (dVar 4)) (dC (.int 1))) (dVar 4)) (dVar 4)) (dNil))))))
    (dRet (dCB gTupOf (dCons (dVar 1) (dNil))))))
noncomputable def p_home_input (c : Value) : List D → Option FAns := defD 6 [false] (g_home_input c)
noncomputable def g_home_mode (c : Value) : Sv := dRet (dIx gIxT (dCall p_led (dCons (dVar 0) (dCons (dC (.int 0)) (dCons (dCall (p_home_input c) (dCons (dVar 0) (dNil))) (dNil))))) (dC (.int 0)))
noncomputable def p_home_mode (c : Value) : List D → Option FAns := defD 1 [false] (g_home_mode c)
noncomputable def g_modes_again (c : Value) : Sv := dSeq (dAsg (tName 1) (dCall (p_home_mode c) (dCons (dVar 0) (dNil))))
    (dSeq (dPar 2 3 (dCons (dDisp [(dVar 1, dC (.bl true))]) (dCons (dLst (dCons (dVar 1) (dNil))) (dNil))))
    (dSeq (dWhile (dB (dOp gNe (dVar 3) (dLst (dNil)))) (dFor [] (tTupG 2 (tsCons (tName 4) (tsCons (tName 5) (tsNil)))) (dIter1 tupI (dIx gIxT (dIx gIxT (dVar 0) (dC (.int 2))) (dMtM gPop 3 dNil))) (dIfS (dB (dOp (gInD true) (dVar 4) (dVar 2))) (dSeq (dPut 2 (dVar 4) (dC (.bl true)))
    (dExp (dMtM gApp 3 (dCons (dVar 4) (dNil))))) (dNil'))) 1000)
    (dRet (dCB gTupOf (dCons (dCB gSortD (dCons (dVar 2) (dNil))) (dNil))))))
noncomputable def p_modes_again (c : Value) : List D → Option FAns := defD 6 [false] (g_modes_again c)
noncomputable def g__law_source : Sv := dSeq (dAsg (tName 1) (dC (.int 11)))
    (dSeq (dFor [0] (tName 2) (dIter1 D.lis (dVar 0)) (dAsg (tName 1) (dOp gMod (dCB gInt (dCons (dOp gAdd (dOp gAdd (dOp gMul (dVar 1) (dC (.int 69069))) (dOp gMul (dVar 2) (dC (.int 31)))) (dC (.int 5))) (dNil))) (dC (.int 2147483629)))))
    (dRet (dDisp [(dC (.str "cells"), d1 gRev (dLc [2] (tName 2) (dIter1 D.lis (dVar 0)) (dYes) (dCB gAbs (dCons (dVar 2) (dNil))))), (dC (.str "left"), dC (.int 1)), (dC (.str "mixed"), dVar 1), (dC (.str "turn"), dC (.int 0))])))
noncomputable def p__law_source : List D → Option FAns := defD 3 [false] g__law_source
noncomputable def g__law_pick : Sv := dSeq (dWhile (dAnd (dB (dOp gGt (dVar 1) (dC (.int 1)))) (dAnd (dB (dOp gLt (dIx gIxD (dVar 0) (dC (.str "left"))) (dC (.int 2)))) (dB (dOp gGt (dCB gLen (dCons (dIx gIxD (dVar 0) (dC (.str "cells"))) (dNil))) (dC (.int 0)))))) (dPut 0 (dC (.str "left")) (dPopK 0 (.inr "cells"))) 1000)
    (dSeq (dAsg (tName 2) (dIx gIxD (dVar 0) (dC (.str "left"))))
    (dSeq (dIfS (dOr (dB (dOp gLt (dVar 1) (dC (.int 2)))) (dB (dOp gGt (dVar 2) (dC (.int 1))))) (dSeq (dPut 0 (dC (.str "left")) (dOp gDiv (dVar 2) (dCB gMax (dCons (dC (.int 1)) (dCons (dVar 1) (dNil))))))
    (dRet (dOp gMod (dCB gInt (dCons (dVar 2) (dNil))) (dCB gMax (dCons (dC (.int 1)) (dCons (dVar 1) (dNil))))))) (dNil'))
    (dSeq (dPut 0 (dC (.str "turn")) (dOp gAdd (dIx gIxD (dVar 0) (dC (.str "turn"))) (dC (.int 1))))
    (dSeq (dAsg (tName 3) (dOp gMod (dCB gInt (dCons (dOp gAdd (dIx gIxD (dVar 0) (dC (.str "mixed"))) (dOp gMul (dIx gIxD (dVar 0) (dC (.str "turn"))) (dC (.int 104729)))) (dNil))) (dC (.int 998244353))))
    (dSeq (dAsg (tName 3) (dOp gMod (dCB gInt (dCons (dOp gAdd (dOp gMul (dVar 3) (dVar 3)) (dOp gMul (dIx gIxD (dVar 0) (dC (.str "turn"))) (dC (.int 17)))) (dNil))) (dC (.int 2147483647))))
    (dSeq (dPut 0 (dC (.str "mixed")) (dVar 3))
    (dRet (dOp gMod (dCB gInt (dCons (dOp gDiv (dVar 3) (dC (.int 16))) (dNil))) (dVar 1)))))))))
noncomputable def p__law_pick : List D → Option FAns := defD 4 [true, false] g__law_pick
noncomputable def g__law_of : Sv := dRet (dIx gIxL (dVar 1) (dCall p__law_pick (dCons (dVar 0) (dCons (dCB gLen (dCons (dVar 1) (dNil))) (dNil)))))
noncomputable def p__law_of : List D → Option FAns := defD 2 [true, false] g__law_of
noncomputable def g__law_mixed : Sv := dSeq (dAsg (tName 2) (dCB gLstOf (dCons (dVar 1) (dNil))))
    (dRet (dLc [3] (tName 3) (dIterL gRange1 (dCons (dCB gLen (dCons (dVar 2) (dNil))) (dNil))) (dYes) (dMtM gPopAt 2 (dCons (dCall p__law_pick (dCons (dVar 0) (dCons (dCB gLen (dCons (dVar 2) (dNil))) (dNil)))) (dNil)))))
noncomputable def p__law_mixed : List D → Option FAns := defD 4 [true, false] g__law_mixed
noncomputable def g__law_grid : Sv := dSeq (dPar3 3 4 5 (dCons (dDic0) (dCons (dLst (dCons (dTup (dNil)) (dNil))) (dCons (dLst (dNil)) (dNil)))))
    (dSeq (dFor [0, 2] (tTupG 2 (tsCons (tName 6) (tsCons (tName 7) (tsNil)))) (dIter1 D.lis (dVar 2)) (dSeq (dAsg (tName 8) (dLst (dNil)))
    (dSeq (dFor [0, 2, 4] (tName 9) (dIter1 D.lis (dVar 4)) (dAsg (tName 8) (dOp gCat (dVar 8) (dLc [15] (tName 15) (dIterL gRange1 (dCons (dOp gAdd (dVar 6) (dVar 7)) (dNil))) (dYes) (dOp gCatT (dVar 9) (dTup (dCons (dVar 15) (dNil))))))))
    (dSeq (dAsg (tName 4) (dVar 8))
    (dExp (dMtM gApp 5 (dCons (dLc [15] (tName 15) (dIterL gRange1 (dCons (dOp gAdd (dVar 6) (dVar 7)) (dNil))) (dYes) (dTup (dCons (dCall p__law_of (dCons (dVar 0) (dCons (dLst (dCons (dC (.int 0)) (dCons (dC (.int 0)) (dCons (dC (.int 1)) (dCons (dC (.int 2)) (dNil)))))) (dNil)))) (dNil)))) (dNil))))))))
    (dSeq (dAsg (tName 10) (dOp gCat (dLst (dCons (dIx gIxL (dVar 4) (dC (.int 0))) (dNil))) (dCall p__law_mixed (dCons (dVar 0) (dCons (dSl gSlL (dVar 4) (some (dC (.int 1))) none) (dNil))))))
    (dSeq (dAsg (tName 11) (dLst (dNil)))
    (dSeq (dFor [0, 2, 10] (tName 9) (dIter1 D.lis (dVar 10)) (dSeq (dAsg (tName 12) (dLst (dNil)))
    (dSeq (dFor [0, 2, 10] (tTupG 2 (tsCons (tName 13) (tsCons (tTupG 2 (tsCons (tName 6) (tsCons (tName 7) (tsNil)))) (tsNil)))) (dIterL gEnumL (dCons (dVar 2) (dNil))) (dSeq (dAsg (tName 14) (dIx gIxT (dVar 9) (dVar 13)))
    (dSeq (dAsg (tName 8) (dIf (dB (dOp gLt (dOp gAdd (dVar 14) (dC (.int 1))) (dOp gAdd (dVar 6) (dVar 7)))) (dOp gAdd (dVar 14) (dC (.int 1))) (dVar 6)))
    (dExp (dMtM gApp 12 (dCons (dTup (dCons (dMtM gIndex 10 (dCons (dOp gCatT (dOp gCatT (dSl gSlT (dVar 9) none (some (dVar 13))) (dTup (dCons (dVar 8) (dNil)))) (dSl gSlT (dVar 9) (some (dOp gAdd (dVar 13) (dC (.int 1)))) none)) (dNil))) (dCons (dIx gIxL (dIx gIxL (dVar 5) (dVar 13)) (dVar 14)) (dNil)))) (dNil)))))))
    (dExp (dMtM gApp 11 (dCons (dCB gTupOf (dCons (dVar 12) (dNil))) (dNil)))))))
    (dRet (dTup (dCons (dVar 1) (dCons (dC (.int 1)) (dCons (dCB gTupOf (dCons (dVar 11) (dNil))) (dNil))))))))))
noncomputable def p__law_grid : List D → Option FAns := defD 16 [true, false, true] g__law_grid
noncomputable def g__law_summed : Sv := dSeq (dAsg (tName 5) (dLc [4] (tName 4) (dIterL gRange1 (dCons (dOp gAdd (dVar 1) (dVar 2)) (dNil))) (dYes) (dCall p__law_of (dCons (dVar 0) (dCons (dLst (dCons (dC (.int 0)) (dCons (dC (.int 1)) (dNil)))) (dNil))))))
    (dSeq (dAsg (tName 6) (dLst (dNil)))
    (dSeq (dFor [0, 3] (tName 4) (dIterL gRange1 (dCons (dOp gAdd (dVar 1) (dVar 2)) (dNil))) (dSeq (dAsg (tName 7) (dLst (dNil)))
    (dSeq (dFor [0, 3] (tName 8) (dIter1 D.lis (dVar 3)) (dSeq (dPar 9 10 (dCons (dVar 4) (dCons (dC (.int 0)) (dNil))))
    (dSeq (dFor [0, 3] (tName 11) (dIterL gRange1 (dCons (dVar 8) (dNil))) (dSeq (dAsg (tName 10) (dOp gAdd (dVar 10) (dIx gIxL (dVar 5) (dVar 9))))
    (dAsg (tName 9) (dIf (dB (dOp gLt (dOp gAdd (dVar 9) (dC (.int 1))) (dOp gAdd (dVar 1) (dVar 2)))) (dOp gAdd (dVar 9) (dC (.int 1))) (dVar 1)))))
    (dExp (dMtM gApp 7 (dCons (dTup (dCons (dVar 9) (dCons (dTup (dCons (dVar 10) (dNil))) (dNil)))) (dNil)))))))
    (dExp (dMtM gApp 6 (dCons (dCB gTupOf (dCons (dVar 7) (dNil))) (dNil)))))))
    (dRet (dTup (dCons (dCB gLen (dCons (dVar 3) (dNil))) (dCons (dC (.int 1)) (dCons (dCB gTupOf (dCons (dVar 6) (dNil))) (dNil))))))))
noncomputable def p__law_summed : List D → Option FAns := defD 12 [true, false, false, true] g__law_summed
noncomputable def g__law_modes : Sv := dSeq (dPar 2 3 (dCons (dLst (dCons (dVar 1) (dNil))) (dCons (dC (.int 0)) (dNil))))
    (dSeq (dWhile (dB (dOp gLt (dVar 3) (dCB gLen (dCons (dVar 2) (dNil))))) (dSeq (dFor [] (tName 4) (dIter1 tupI (dIx gIxT (dIx gIxT (dVar 0) (dC (.int 2))) (dIx gIxL (dVar 2) (dVar 3)))) (dIfS (dAnd (dB (dOp (gIsN true) (dVar 4) (dC .non))) (dB (dOp (gInN true) (dIx gIxT (dVar 4) (dC (.int 0))) (dVar 2)))) (dExp (dMtM gApp 2 (dCons (dIx gIxT (dVar 4) (dC (.int 0))) (dNil)))) (dNil')))
    (dAsg (tName 3) (dOp gAdd (dVar 3) (dC (.int 1))))) 1000)
    (dRet (dVar 2)))
noncomputable def p__law_modes : List D → Option FAns := defD 5 [false, false] g__law_modes
noncomputable def g__law_again : Sv := dSeq (dAsg (tName 1) (dDict (dCons (dLc [2] (tName 2) (dIter1 D.lis (dCall p__law_modes (dCons (dVar 0) (dCons (dC (.int 0)) (dNil))))) (dYes) (dTup (dCons (dVar 2) (dCons (dCall p__law_modes (dCons (dVar 0) (dCons (dVar 2) (dNil)))) (dNil))))) (dNil))))
    (dRet (dCB gTupOf (dCons (dLc [2] (tName 2) (dIter1 D.lis (dCB gSortD (dCons (dVar 1) (dNil)))) (dB (dOp gEq (dLc [3] (tName 3) (dIter1 D.lis (dIx gIxD (dVar 1) (dVar 2))) (dB (dOp (gInN true) (dVar 2) (dIx gIxD (dVar 1) (dVar 3)))) (dVar 3)) (dLst (dNil)))) (dVar 2)) (dNil))))
noncomputable def p__law_again : List D → Option FAns := defD 4 [false] g__law_again
noncomputable def g__law_line : Sv := dSeq (dAsg (tName 3) (dLst (dCons (dVar 1) (dNil))))
    (dSeq (dFor [] (tName 4) (dIterL gRange1 (dCons (dOp gAdd (dCB gLen (dCons (dIx gIxT (dVar 0) (dC (.int 2))) (dNil))) (dC (.int 1))) (dNil))) (dSeq (dAsg (tName 5) (dIx gIxT (dIx gIxT (dIx gIxT (dIx gIxT (dVar 0) (dC (.int 2))) (dIx gIxL (dVar 3) (d1 gNeg (dC (.int 1))))) (dVar 2)) (dC (.int 0))))
    (dSeq (dIfS (dB (dOp (gInN false) (dVar 5) (dVar 3))) (dRet (dTup (dCons (dMtM gIndex 3 (dCons (dVar 5) (dNil))) (dCons (dOp gSub (dCB gLen (dCons (dVar 3) (dNil))) (dMtM gIndex 3 (dCons (dVar 5) (dNil)))) (dNil))))) (dNil'))
    (dExp (dMtM gApp 3 (dCons (dVar 5) (dNil)))))))
    (dRet (dC .non)))
noncomputable def p__law_line : List D → Option FAns := defD 6 [false, false, false] g__law_line
noncomputable def g__law_home : Sv := dSeq (dAsg (tName 1) (dLst (dNil)))
    (dSeq (dFor [] (tName 2) (dIterL gRange1 (dCons (dIx gIxT (dVar 0) (dC (.int 0))) (dNil))) (dSeq (dAsg (tTupG 2 (tsCons (tName 3) (tsCons (tName 4) (tsNil)))) (dCall p__law_line (dCons (dVar 0) (dCons (dC (.int 0)) (dCons (dVar 2) (dNil))))))
    (dExp (dMtM gApp 1 (dCons (dOp gMul (dOp gDiv (dOp gSub (dOp gAdd (dVar 3) (dVar 4)) (dC (.int 1))) (dVar 4)) (dVar 4)) (dNil))))))
    (dRet (dCB gTupOf (dCons (dVar 1) (dNil)))))
noncomputable def p__law_home : List D → Option FAns := defD 5 [false] g__law_home
noncomputable def g__law_led : Sv := dSeq (dFor [] (tTupG 2 (tsCons (tName 3) (tsCons (tName 4) (tsNil)))) (dIterL gEnumT (dCons (dVar 2) (dNil))) (dFor [] (tName 5) (dIterL gRange1 (dCons (dVar 4) (dNil))) (dAsg (tName 1) (dIx gIxT (dIx gIxT (dIx gIxT (dIx gIxT (dVar 0) (dC (.int 2))) (dVar 1)) (dVar 3)) (dC (.int 0))))))
    (dRet (dVar 1))
noncomputable def p__law_led : List D → Option FAns := defD 6 [false, false, false] g__law_led
noncomputable def g__law_group_right : Sv := dSeq (dFor [] (tName 3) (dIterL gRange1 (dCons (dIx gIxT (dVar 0) (dC (.int 0))) (dNil))) (dIfS (dB (dOp gNe (dCB gSortL (dCons (dLc [11] (tName 11) (dIter1 tupI (dVar 1)) (dYes) (dIx gIxT (dIx gIxT (dIx gIxT (dIx gIxT (dVar 0) (dC (.int 2))) (dVar 11)) (dVar 3)) (dC (.int 0)))) (dNil))) (dCB gLstOf (dCons (dVar 1) (dNil))))) (dRet (dC (.bl false))) (dNil')))
    (dSeq (dPar 4 5 (dCons (dDisp [(dVar 2, dOp gRepT (dTup (dCons (dC (.int 0)) (dNil))) (dIx gIxT (dVar 0) (dC (.int 0))))]) (dCons (dLst (dCons (dVar 2) (dNil))) (dNil))))
    (dSeq (dWhile (dB (dOp gNe (dVar 5) (dLst (dNil)))) (dSeq (dAsg (tName 6) (dMtM gPop 5 dNil))
    (dFor [] (tName 3) (dIterL gRange1 (dCons (dIx gIxT (dVar 0) (dC (.int 0))) (dNil))) (dSeq (dAsg (tName 7) (dIx gIxT (dIx gIxT (dIx gIxT (dIx gIxT (dVar 0) (dC (.int 2))) (dVar 6)) (dVar 3)) (dC (.int 0))))
    (dIfS (dB (dOp (gInD true) (dVar 7) (dVar 4))) (dSeq (dPut 4 (dVar 7) (dCB gTupOf (dCons (dLc [12, 13] (tTupG 2 (tsCons (tName 12) (tsCons (tName 13) (tsNil)))) (dIterL gEnumT (dCons (dIx gIxD (dVar 4) (dVar 6)) (dNil))) (dYes) (dOp gAdd (dVar 13) (dCB gInt (dCons (dOp gEq (dVar 12) (dVar 3)) (dNil))))) (dNil))))
    (dExp (dMtM gApp 5 (dCons (dVar 7) (dNil))))) (dNil'))))) 1000)
    (dSeq (dIfS (dB (dOp gNe (dCB gSortD (dCons (dVar 4) (dNil))) (dCB gLstOf (dCons (dVar 1) (dNil))))) (dRet (dC (.bl false))) (dNil'))
    (dSeq (dFor [] (tName 8) (dIter1 tupI (dSl gSlT (dVar 1) none (some (dC (.int 4))))) (dFor [] (tName 9) (dIter1 tupI (dSl gSlT (dVar 1) (some (d1 gNeg (dC (.int 4)))) none)) (dSeq (dAsg (tName 10) (dCB gTupOf (dCons (dLc [14, 15] (tTupG 2 (tsCons (tName 14) (tsCons (tName 15) (tsNil)))) (dIterL gZip (dCons (dIx gIxD (dVar 4) (dVar 8)) (dCons (dIx gIxD (dVar 4) (dVar 9)) (dNil)))) (dYes) (dOp gAdd (dVar 14) (dVar 15))) (dNil))))
    (dSeq (dIfS (dB (dOp gNe (dCall p__law_led (dCons (dVar 0) (dCons (dVar 2) (dCons (dVar 10) (dNil))))) (dCall p__law_led (dCons (dVar 0) (dCons (dVar 8) (dCons (dIx gIxD (dVar 4) (dVar 9)) (dNil))))))) (dRet (dC (.bl false))) (dNil'))
    (dIfS (dB (dOp gNe (dCall p__law_led (dCons (dVar 0) (dCons (dVar 9) (dCons (dIx gIxD (dVar 4) (dVar 8)) (dNil))))) (dCall p__law_led (dCons (dVar 0) (dCons (dVar 8) (dCons (dIx gIxD (dVar 4) (dVar 9)) (dNil))))))) (dRet (dC (.bl false))) (dNil'))))))
    (dRet (dC (.bl true)))))))
noncomputable def p__law_group_right : List D → Option FAns := defD 16 [false, false, false] g__law_group_right
noncomputable def g__law_never_right (c : Value) : Sv := dSeq (dAsg (tName 4) (dOp gCatT (dSl gSlT (dVar 0) none (some (dC (.int 2)))) (dTup (dCons (dCB gTupOf (dCons (dLc [5] (tName 5) (dIter1 tupI (dIx gIxT (dVar 0) (dC (.int 2)))) (dYes) (dOp gCatT (dTup (dCons (dC .non) (dNil))) (dSl gSlT (dVar 5) (some (dC (.int 1))) none))) (dNil))) (dNil)))))
    (dSeq (dAsg (tName 1) (dOp gCatT (dSl gSlT (dVar 0) none (some (dC (.int 2)))) (dTup (dCons (dOp gCatT (dIx gIxT (dVar 0) (dC (.int 2))) (dTup (dCons (dOp gRepT (dTup (dCons (dC .non) (dNil))) (dIx gIxT (dVar 0) (dC (.int 0)))) (dNil)))) (dNil)))))
    (dSeq (dAsg (tName 2) (dLst (dCons (dTry "told" "not of it" c (dCall (p_home_input c) (dCons (dVar 4) (dNil)))) (dNil))))
    (dSeq (dExp (dMtM gApp 2 (dCons (dTry "told" "not of it" c (dCall (p_modes_again c) (dCons (dVar 4) (dNil)))) (dNil))))
    (dSeq (dExp (dMtM gApp 2 (dCons (dTry "told" "not of it" c (dCall (p_home_mode c) (dCons (dVar 4) (dNil)))) (dNil))))
    (dSeq (dAsg (tName 3) (dOp gRep (dLst (dCons (dTup (dCons (dC (.str "not of it")) (dNil))) (dNil))) (dC (.int 3))))
    (dRet (dAndV (dOp gEq (dCB gRepr (dCons (dVar 2) (dNil))) (dCB gRepr (dCons (dVar 3) (dNil)))) (dOp gEq (dCB gRepr (dCons (dCall (p_modes_again c) (dCons (dVar 1) (dNil))) (dNil))) (dCB gRepr (dCons (dCall (p_modes_again c) (dCons (dVar 0) (dNil))) (dNil)))))))))))
noncomputable def p__law_never_right (c : Value) : List D → Option FAns := defD 6 [false] (g__law_never_right c)
noncomputable def g_law (c : Value) : Sv := dSeq (dAsg (tName 1) (dCall p__law_source (dCons (dVar 0) (dNil))))
    (dSeq (dFor [] (tName 2) (dIterL gRange1 (dCons (dC (.int 3)) (dNil))) (dSeq (dIfS (dB (dOp gEq (dCall p__law_pick (dCons (dVar 1) (dCons (dC (.int 2)) (dNil)))) (dC (.int 0)))) (dSeq (dAsg (tName 3) (dCall p__law_of (dCons (dVar 1) (dCons (dLst (dCons (dC (.int 1)) (dCons (dC (.int 2)) (dCons (dC (.int 2)) (dNil))))) (dNil)))))
    (dSeq (dAsg (tName 4) (dLc [16] (tName 16) (dIterL gRange1 (dCons (dVar 3) (dNil))) (dYes) (dCall p__law_of (dCons (dVar 1) (dCons (dLst (dCons (dTup (dCons (dC (.int 0)) (dCons (dC (.int 2)) (dNil)))) (dCons (dTup (dCons (dC (.int 0)) (dCons (dC (.int 3)) (dNil)))) (dCons (dTup (dCons (dC (.int 1)) (dCons (dC (.int 2)) (dNil)))) (dCons (dTup (dCons (dC (.int 2)) (dCons (dC (.int 1)) (dNil)))) (dCons (dTup (dCons (dC (.int 1)) (dCons (dC (.int 1)) (dNil)))) (dCons (dTup (dCons (dC (.int 0)) (dCons (dC (.int 4)) (dNil)))) (dCons (dTup (dCons (dC (.int 2)) (dCons (dC (.int 2)) (dNil)))) (dNil))))))))) (dNil))))))
    (dAsg (tName 5) (dCall p__law_grid (dCons (dVar 1) (dCons (dVar 3) (dCons (dVar 4) (dNil)))))))) (dSeq (dAsg (tName 6) (dOp gCat (dLst (dCons (dC (.int 1)) (dNil))) (dLc [16] (tName 16) (dIterL gRange1 (dCons (dCall p__law_pick (dCons (dVar 1) (dCons (dC (.int 3)) (dNil)))) (dNil))) (dYes) (dCall p__law_of (dCons (dVar 1) (dCons (dLst (dCons (dC (.int 1)) (dCons (dC (.int 2)) (dCons (dC (.int 3)) (dCons (dC (.int 4)) (dNil)))))) (dNil)))))))
    (dAsg (tName 5) (dCall p__law_summed (dCons (dVar 1) (dCons (dCall p__law_pick (dCons (dVar 1) (dCons (dC (.int 4)) (dNil)))) (dCons (dCall p__law_of (dCons (dVar 1) (dCons (dLst (dCons (dC (.int 1)) (dCons (dC (.int 2)) (dCons (dC (.int 3)) (dCons (dC (.int 4)) (dCons (dC (.int 6)) (dNil))))))) (dNil)))) (dCons (dVar 6) (dNil)))))))))
    (dSeq (dPar3 7 8 9 (dCons (dCB gRepr (dCons (dVar 5) (dNil))) (dCons (dCall p__law_again (dCons (dVar 5) (dNil))) (dCons (dCall p__law_home (dCons (dVar 5) (dNil))) (dNil)))))
    (dSeq (dIfS (dB (dOp gNe (dCB gRepr (dCons (dLst (dCons (dCall (p_modes_again c) (dCons (dVar 5) (dNil))) (dCons (dCall (p_home_input c) (dCons (dVar 5) (dNil))) (dNil)))) (dNil))) (dCB gRepr (dCons (dLst (dCons (dVar 8) (dCons (dVar 9) (dNil)))) (dNil))))) (dRet (dC (.bl false))) (dNil'))
    (dSeq (dAsg (tName 10) (dCall p__law_led (dCons (dVar 5) (dCons (dC (.int 0)) (dCons (dVar 9) (dNil))))))
    (dSeq (dIfS (dOr (dB (dOp gNe (dCB gRepr (dCons (dCall (p_home_mode c) (dCons (dVar 5) (dNil))) (dNil))) (dCB gRepr (dCons (dVar 10) (dNil))))) (dB (dOp (gInN true) (dVar 10) (dVar 8)))) (dRet (dC (.bl false))) (dNil'))
    (dSeq (dFor [] (tName 11) (dIter1 D.lis (dSl gSlL (dCall p__law_modes (dCons (dVar 5) (dCons (dC (.int 0)) (dNil)))) none (some (dC (.int 5))))) (dSeq (dAsg (tName 12) (dCall p__law_led (dCons (dVar 5) (dCons (dVar 11) (dCons (dVar 9) (dNil))))))
    (dIfS (dOr (dB (dOp (gInN true) (dVar 12) (dVar 8))) (dB (dOp gNe (dCall p__law_led (dCons (dVar 5) (dCons (dVar 12) (dCons (dVar 9) (dNil))))) (dVar 12)))) (dRet (dC (.bl false))) (dNil'))))
    (dSeq (dIfS (dOr (dNot (dB (dCall p__law_group_right (dCons (dVar 5) (dCons (dVar 8) (dCons (dVar 10) (dNil))))))) (dB (dOp gNe (dCB gRepr (dCons (dVar 5) (dNil))) (dVar 7)))) (dRet (dC (.bl false))) (dNil'))
    (dIfS (dNot (dB (dCall (p__law_never_right c) (dCons (dVar 5) (dNil))))) (dRet (dC (.bl false))) (dNil'))))))))))
    (dSeq (dAsg (tTupG 2 (tsCons (tName 13) (tsCons (tName 14) (tsNil)))) (dTup (dCons (dTup (dCons (dC (.int 1)) (dCons (dC (.int 1)) (dCons (dTup (dCons (dTup (dCons (dTup (dCons (dC (.int 1)) (dCons (dTup (dCons (dC (.int 0)) (dNil))) (dNil)))) (dNil))) (dCons (dTup (dCons (dTup (dCons (dC (.int 0)) (dCons (dTup (dCons (dC (.int 1)) (dNil))) (dNil)))) (dNil))) (dNil)))) (dNil))))) (dCons (dTup (dCons (dC (.int 1)) (dCons (dC (.int 1)) (dCons (dTup (dCons (dTup (dCons (dTup (dCons (dC (.int 1)) (dCons (dTup (dCons (dC (.int 1)) (dNil))) (dNil)))) (dNil))) (dCons (dTup (dCons (dTup (dCons (dC (.int 1)) (dCons (dTup (dCons (dC (.int 0)) (dNil))) (dNil)))) (dNil))) (dNil)))) (dNil))))) (dNil)))))
    (dSeq (dAsg (tName 15) (dLst (dCons (dCall (p_modes_again c) (dCons (dVar 13) (dNil))) (dCons (dCall (p_home_input c) (dCons (dVar 13) (dNil))) (dCons (dCall (p_modes_again c) (dCons (dVar 14) (dNil))) (dCons (dCall (p_home_input c) (dCons (dVar 14) (dNil))) (dCons (dCall (p_home_mode c) (dCons (dVar 14) (dNil))) (dNil))))))))
    (dRet (dOp gEq (dCB gRepr (dCons (dVar 15) (dNil))) (dCB gRepr (dCons (dLst (dCons (dTup (dCons (dC (.int 0)) (dCons (dC (.int 1)) (dNil)))) (dCons (dTup (dCons (dC (.int 0)) (dNil))) (dCons (dTup (dCons (dC (.int 1)) (dNil))) (dCons (dTup (dCons (dC (.int 1)) (dNil))) (dCons (dC (.int 1)) (dNil))))))) (dNil))))))))
noncomputable def p_law (c : Value) : List D → Option FAns := defD 17 [false] (g_law c)
/-! ### that it does so -/
section
variable [Tbs]
variable {P : Program} {w : World} {K : PySem.W.Frag} {mg : Str → Option Value} {base : Heap}
theorem binds_nothing (Z : Fx K mg) : Binds K (Z.fD 0) ["many"] [] := Z.ok_nothing.bindsN fun _ _ _ _ _ _ us hl => match us, hl with | [_], _ => rfl
theorem binds_added (Z : Fx K mg) : Binds K (Z.fD 1) ["one", "other"] [] := Z.ok_added.bindsN fun _ _ _ _ _ _ us hl => match us, hl with | [_, _], _ => rfl
theorem binds_taken_off (Z : Fx K mg) : Binds K (Z.fD 2) ["one", "other"] [] := Z.ok_taken_off.bindsN fun _ _ _ _ _ _ us hl => match us, hl with | [_, _], _ => rfl
theorem binds_times (Z : Fx K mg) : Binds K (Z.fD 3) ["one", "many"] [] := Z.ok_times.bindsN fun _ _ _ _ _ _ us hl => match us, hl with | [_, _], _ => rfl
theorem binds_modes_behind (Z : Fx K mg) : Binds K (Z.fD 4) ["machine", "mode"] [] := Z.ok_modes_behind.bindsN fun _ _ _ _ _ _ us hl => match us, hl with | [_, _], _ => rfl
theorem binds_modes_come_to (Z : Fx K mg) : Binds K (Z.fD 5) ["machine"] [] := Z.ok_modes_come_to.bindsN fun _ _ _ _ _ _ us hl => match us, hl with | [_], _ => rfl
theorem binds_wire_line (Z : Fx K mg) : Binds K (Z.fD 6) ["machine", "mode", "wire"] [] := Z.ok_wire_line.bindsN fun _ _ _ _ _ _ us hl => match us, hl with | [_, _, _], _ => rfl
theorem binds_slope_at (Z : Fx K mg) : Binds K (Z.fD 7) ["machine", "mode", "wire"] [] := Z.ok_slope_at.bindsN fun _ _ _ _ _ _ us hl => match us, hl with | [_, _, _], _ => rfl
theorem binds_led_by (Z : Fx K mg) : Binds K (Z.fD 8) ["machine", "mode", "wire", "many"] [] := Z.ok_led_by.bindsN fun _ _ _ _ _ _ us hl => match us, hl with | [_, _, _, _], _ => rfl
theorem binds_led (Z : Fx K mg) : Binds K (Z.fD 9) ["machine", "mode", "vector"] [] := Z.ok_led.bindsN fun _ _ _ _ _ _ us hl => match us, hl with | [_, _, _], _ => rfl
theorem binds_need_rest (Z : Fx K mg) : Binds K (Z.fD 10) ["machine"] [] := Z.ok_need_rest.bindsN fun _ _ _ _ _ _ us hl => match us, hl with | [_], _ => rfl
theorem binds_home_input (Z : Fx K mg) : Binds K (Z.fD 11) ["machine"] [] := Z.ok_home_input.bindsN fun _ _ _ _ _ _ us hl => match us, hl with | [_], _ => rfl
theorem binds_home_mode (Z : Fx K mg) : Binds K (Z.fD 12) ["machine"] [] := Z.ok_home_mode.bindsN fun _ _ _ _ _ _ us hl => match us, hl with | [_], _ => rfl
theorem binds_modes_again (Z : Fx K mg) : Binds K (Z.fD 13) ["machine"] [] := Z.ok_modes_again.bindsN fun _ _ _ _ _ _ us hl => match us, hl with | [_], _ => rfl
theorem binds__law_source (Z : Fx K mg) : Binds K (Z.fD 14) ["script"] [] := Z.ok__law_source.bindsN fun _ _ _ _ _ _ us hl => match us, hl with | [_], _ => rfl
theorem binds__law_pick (Z : Fx K mg) : Binds K (Z.fD 15) ["source", "many"] [] := Z.ok__law_pick.bindsN fun _ _ _ _ _ _ us hl => match us, hl with | [_, _], _ => rfl
theorem binds__law_of (Z : Fx K mg) : Binds K (Z.fD 16) ["source", "some"] [] := Z.ok__law_of.bindsN fun _ _ _ _ _ _ us hl => match us, hl with | [_, _], _ => rfl
theorem binds__law_mixed (Z : Fx K mg) : Binds K (Z.fD 17) ["source", "things"] [] := Z.ok__law_mixed.bindsN fun _ _ _ _ _ _ us hl => match us, hl with | [_, _], _ => rfl
theorem binds__law_grid (Z : Fx K mg) : Binds K (Z.fD 18) ["source", "ins", "sizes"] [] := Z.ok__law_grid.bindsN fun _ _ _ _ _ _ us hl => match us, hl with | [_, _, _], _ => rfl
theorem binds__law_summed (Z : Fx K mg) : Binds K (Z.fD 19) ["source", "many", "back", "shares"] [] := Z.ok__law_summed.bindsN fun _ _ _ _ _ _ us hl => match us, hl with | [_, _, _, _], _ => rfl
theorem binds__law_modes (Z : Fx K mg) : Binds K (Z.fD 20) ["machine", "first"] [] := Z.ok__law_modes.bindsN fun _ _ _ _ _ _ us hl => match us, hl with | [_, _], _ => rfl
theorem binds__law_again (Z : Fx K mg) : Binds K (Z.fD 21) ["machine"] [] := Z.ok__law_again.bindsN fun _ _ _ _ _ _ us hl => match us, hl with | [_], _ => rfl
theorem binds__law_line (Z : Fx K mg) : Binds K (Z.fD 22) ["machine", "mode", "wire"] [] := Z.ok__law_line.bindsN fun _ _ _ _ _ _ us hl => match us, hl with | [_, _, _], _ => rfl
theorem binds__law_home (Z : Fx K mg) : Binds K (Z.fD 23) ["machine"] [] := Z.ok__law_home.bindsN fun _ _ _ _ _ _ us hl => match us, hl with | [_], _ => rfl
theorem binds__law_led (Z : Fx K mg) : Binds K (Z.fD 24) ["machine", "mode", "one"] [] := Z.ok__law_led.bindsN fun _ _ _ _ _ _ us hl => match us, hl with | [_, _, _], _ => rfl
theorem binds__law_heard (Z : Fx K mg) : Binds K (Z.fD 25) ["call"] [] := Z.ok__law_heard.bindsN fun _ _ _ _ _ _ us hl => match us, hl with | [_], _ => rfl
theorem binds__law_group_right (Z : Fx K mg) : Binds K (Z.fD 26) ["machine", "lot", "home"] [] := Z.ok__law_group_right.bindsN fun _ _ _ _ _ _ us hl => match us, hl with | [_, _, _], _ => rfl
theorem binds__law_never_right (Z : Fx K mg) : Binds K (Z.fD 27) ["machine"] [] := Z.ok__law_never_right.bindsN fun _ _ _ _ _ _ us hl => match us, hl with | [_], _ => rfl
theorem binds_law (Z : Fx K mg) : Binds K (Z.fD 28) ["script"] [] := Z.ok_law.bindsN fun _ _ _ _ _ _ us hl => match us, hl with | [_], _ => rfl
theorem sc__law_heard : FnScope ["call"] ["call"] (defScope s__law_heard) := ⟨rfl, rfl, rfl, by decide +kernel, rfl, by decide +kernel, by decide +kernel⟩
theorem sc_nothing : FnScope ["many"] ["many"] (defScope s_nothing) := ⟨rfl, rfl, rfl, by decide +kernel, rfl, by decide +kernel, by decide +kernel⟩
theorem w_nothing (Z : Fx K mg) : FnG P w K mg base 1 false (Z.fA 0) (Z.fD 0) ["many"] (spD K p_nothing) := by
  refine fng_def (N := ["many"]) (keep := [false]) Z.ok_nothing sc_nothing rfl fun X W cdv A outer s H E eX hr hgd tk hp hcode => ?_
  subst eX
  have hN := sc_nothing.nd
  exact dss_one (ds_ret (de_op op_repAny ops_repT (de_tup (dl_cons (de_int) (dl_nil))) (de_var 0)))
theorem sc_added : FnScope ["one", "other", "a", "b"] ["one", "other"] (defScope s_added) := ⟨rfl, rfl, rfl, by decide +kernel, rfl, by decide +kernel, by decide +kernel⟩
theorem w_added (Z : Fx K mg) : FnG P w K mg base 1 false (Z.fA 1) (Z.fD 1) ["one", "other"] (spD K p_added) := by
  refine fng_def (N := ["one", "other", "a", "b"]) (keep := [false, false]) Z.ok_added sc_added rfl fun X W cdv A outer s H E eX hr hgd tk hp hcode => ?_
  subst eX
  have hN := sc_added.nd
  exact dss_one (ds_ret (de_callTy call_tuple_of cs_tupOf rfl Z.b_tuple boot_tuple (dl_cons (de_lc [("a", 2), ("b", 3)] rfl hN (di_zipS rfl Z.b_zip (dl_cons (de_var 0) (dl_cons (de_var 1) (dl_nil)))) (blkOk_by (by kernel_rfl)) (fun s H C cl fp => dg_tup rfl (dgs_cons (dg_name 2 hN (not_but (by decide))) (dgs_cons (dg_name 3 hN (not_but (by decide))) (dgs_nil)))) (fun s H C cl fp => dts_nil) (fun s H C cl fp => de_op op_add ops_add (de_var 2) (de_var 3))) (dl_nil))))
theorem sc_taken_off : FnScope ["one", "other", "a", "b"] ["one", "other"] (defScope s_taken_off) := ⟨rfl, rfl, rfl, by decide +kernel, rfl, by decide +kernel, by decide +kernel⟩
theorem w_taken_off (Z : Fx K mg) : FnG P w K mg base 1 false (Z.fA 2) (Z.fD 2) ["one", "other"] (spD K p_taken_off) := by
  refine fng_def (N := ["one", "other", "a", "b"]) (keep := [false, false]) Z.ok_taken_off sc_taken_off rfl fun X W cdv A outer s H E eX hr hgd tk hp hcode => ?_
  subst eX
  have hN := sc_taken_off.nd
  exact dss_one (ds_ret (de_callTy call_tuple_of cs_tupOf rfl Z.b_tuple boot_tuple (dl_cons (de_lc [("a", 2), ("b", 3)] rfl hN (di_zipS rfl Z.b_zip (dl_cons (de_var 0) (dl_cons (de_var 1) (dl_nil)))) (blkOk_by (by kernel_rfl)) (fun s H C cl fp => dg_tup rfl (dgs_cons (dg_name 2 hN (not_but (by decide))) (dgs_cons (dg_name 3 hN (not_but (by decide))) (dgs_nil)))) (fun s H C cl fp => dts_nil) (fun s H C cl fp => de_op op_sub ops_sub (de_var 2) (de_var 3))) (dl_nil))))
theorem sc_times : FnScope ["one", "many", "a"] ["one", "many"] (defScope s_times) := ⟨rfl, rfl, rfl, by decide +kernel, rfl, by decide +kernel, by decide +kernel⟩
theorem w_times (Z : Fx K mg) : FnG P w K mg base 1 false (Z.fA 3) (Z.fD 3) ["one", "many"] (spD K p_times) := by
  refine fng_def (N := ["one", "many", "a"]) (keep := [false, false]) Z.ok_times sc_times rfl fun X W cdv A outer s H E eX hr hgd tk hp hcode => ?_
  subst eX
  have hN := sc_times.nd
  exact dss_one (ds_ret (de_callTy call_tuple_of cs_tupOf rfl Z.b_tuple boot_tuple (dl_cons (de_lc [("a", 2)] rfl hN (di_tup (de_var 0)) (blkOk_by (by kernel_rfl)) (fun s H C cl fp => dg_name 2 hN (not_but (by decide))) (fun s H C cl fp => dts_nil) (fun s H C cl fp => de_op op_mul ops_mul (de_var 2) (de_var 1))) (dl_nil))))
theorem sc_modes_behind : FnScope ["machine", "mode", "step"] ["machine", "mode"] (defScope s_modes_behind) := ⟨rfl, rfl, rfl, by decide +kernel, rfl, by decide +kernel, by decide +kernel⟩
theorem w_modes_behind (Z : Fx K mg) : FnG P w K mg base 1 false (Z.fA 4) (Z.fD 4) ["machine", "mode"] (spD K p_modes_behind) := by
  refine fng_def (N := ["machine", "mode", "step"]) (keep := [false, false]) Z.ok_modes_behind sc_modes_behind rfl fun X W cdv A outer s H E eX hr hgd tk hp hcode => ?_
  subst eX
  have hN := sc_modes_behind.nd
  exact dss_one (ds_ret (de_lc [("step", 2)] rfl hN (di_tup (de_ixT (de_ixT (de_var 0) (de_int)) (de_var 1))) (blkOk_by (by kernel_rfl)) (fun s H C cl fp => dg_name 2 hN (not_but (by decide))) (fun s H C cl fp => dts_one (dt_cmp op_notN ops_notN (de_var 2) (de_non))) (fun s H C cl fp => de_ixT (de_var 2) (de_int))))
theorem sc_modes_come_to : FnScope ["machine", "found", "known", "k", "late"] ["machine"] (defScope s_modes_come_to) := ⟨rfl, rfl, rfl, by decide +kernel, rfl, by decide +kernel, by decide +kernel⟩
theorem w_modes_come_to (Z : Fx K mg) : FnG P w K mg base 2 false (Z.fA 5) (Z.fD 5) ["machine"] (spD K p_modes_come_to) := by
  refine fng_def (N := ["machine", "found", "known", "k", "late"]) (keep := [false]) Z.ok_modes_come_to sc_modes_come_to rfl fun X W cdv A outer s H E eX hr hgd tk hp hcode => ?_
  subst eX
  have hN := sc_modes_come_to.nd
  exact dss_cons (ds_par 1 2 rfl hN (dl_cons (de_lst (dl_cons (de_int) (dl_nil))) (dl_cons (de_disp (dps_cons (de_int) (de_bl) (dps_nil))) (dl_nil))))
    (dss_cons (ds_set 3 hN (de_int))
    (dss_cons (ds_while 1000 hp (dt_cmp op_lt ops_lt (de_var 3) (de_callB call_len cs_len rfl Z.b_len boot_len (dl_cons (de_var 1) (dl_nil)))) (dss_cons (ds_for (prot' := []) hp rfl (di_list (de_call (w_modes_behind Z) (hr.mono (by decide)) (fun z => nomatch z) tk rfl Z.g_modes_behind Z.ok_modes_behind.kp (binds_modes_behind Z) (dl_cons (de_var 0) (dl_cons (de_ixL (de_var 1) (de_var 3)) (dl_nil))))) (dg_name 4 hN) (dss_one (ds_if (dt_ninD hr.u1 (de_var 4) (de_var 2)) (dss_cons (ds_put 2 hr.u1 (de_var 4) (de_bl))
    (dss_one (ds_exp (de_mtm 1 F.plainAttrs_list F.slot_list_append F.type_list_append mt_append mts_app (dl_cons (de_var 4) (dl_nil)))))) (dss_nil))))
    (dss_one (ds_aug 3 hN ip_add (de_int)))))
    (dss_one (ds_ret (de_callTy call_tuple_of cs_tupOf rfl Z.b_tuple boot_tuple (dl_cons (de_var 1) (dl_nil)))))))
theorem sc_wire_line : FnScope ["machine", "mode", "wire", "modes", "givens", "places", "step"] ["machine", "mode", "wire"] (defScope s_wire_line) := ⟨rfl, rfl, rfl, by decide +kernel, rfl, by decide +kernel, by decide +kernel⟩
theorem w_wire_line (Z : Fx K mg) : FnG P w K mg base 2 false (Z.fA 6) (Z.fD 6) ["machine", "mode", "wire"] (spD K p_wire_line) := by
  refine fng_def (N := ["machine", "mode", "wire", "modes", "givens", "places", "step"]) (keep := [false, false, false]) Z.ok_wire_line sc_wire_line rfl fun X W cdv A outer s H E eX hr hgd tk hp hcode => ?_
  subst eX
  have hN := sc_wire_line.nd
  exact dss_cons (ds_par3 3 4 5 rfl hN (dl_cons (de_lst (dl_cons (de_var 1) (dl_nil))) (dl_cons (de_lst (dl_cons (de_call (w_nothing Z) (hr.mono (by decide)) (fun z => nomatch z) tk rfl Z.g_nothing Z.ok_nothing.kp (binds_nothing Z) (dl_cons (de_ixT (de_var 0) (de_int)) (dl_nil))) (dl_nil))) (dl_cons (de_disp (dps_cons (de_var 1) (de_int) (dps_nil))) (dl_nil)))))
    (dss_cons (ds_set 6 hN (de_ixT (de_ixT (de_ixT (de_var 0) (de_int)) (de_var 1)) (de_var 2)))
    (dss_cons (ds_while 1000 hp (dt_w (dw_and (dt_cmp op_notN ops_notN (de_var 6) (de_non)) (dw_and1 (dt_ninD hr.u1 (de_ixT (de_var 6) (de_int)) (de_var 5))))) (dss_cons (ds_put 5 hr.u1 (de_ixT (de_var 6) (de_int)) (de_callB call_len cs_len rfl Z.b_len boot_len (dl_cons (de_var 3) (dl_nil))))
    (dss_cons (ds_exp (de_mtm 3 F.plainAttrs_list F.slot_list_append F.type_list_append mt_append mts_app (dl_cons (de_ixT (de_var 6) (de_int)) (dl_nil))))
    (dss_cons (ds_exp (de_mtm 4 F.plainAttrs_list F.slot_list_append F.type_list_append mt_append mts_app (dl_cons (de_call (w_added Z) (hr.mono (by decide)) (fun z => nomatch z) tk rfl Z.g_added Z.ok_added.kp (binds_added Z) (dl_cons (de_ixL (de_var 4) (de_neg (de_int))) (dl_cons (de_ixT (de_var 6) (de_int)) (dl_nil)))) (dl_nil))))
    (dss_one (ds_set 6 hN (de_ixT (de_ixT (de_ixT (de_var 0) (de_int)) (de_ixT (de_var 6) (de_int))) (de_var 2))))))))
    (dss_one (ds_ret (de_tup (dl_cons (de_callTy call_tuple_of cs_tupOf rfl Z.b_tuple boot_tuple (dl_cons (de_var 3) (dl_nil))) (dl_cons (de_callTy call_tuple_of cs_tupOf rfl Z.b_tuple boot_tuple (dl_cons (de_var 4) (dl_nil))) (dl_cons (de_if (dt_cmp op_notN ops_notN (de_var 6) (de_non)) (de_ixD hr.u1 (de_var 5) (de_ixT (de_var 6) (de_int))) (de_non)) (dl_nil)))))))))
theorem sc_slope_at : FnScope ["machine", "mode", "wire", "modes", "givens", "threshold", "last"] ["machine", "mode", "wire"] (defScope s_slope_at) := ⟨rfl, rfl, rfl, by decide +kernel, rfl, by decide +kernel, by decide +kernel⟩
theorem w_slope_at (Z : Fx K mg) : FnG P w K mg base 3 false (Z.fA 7) (Z.fD 7) ["machine", "mode", "wire"] (spD K p_slope_at) := by
  refine fng_def (N := ["machine", "mode", "wire", "modes", "givens", "threshold", "last"]) (keep := [false, false, false]) Z.ok_slope_at sc_slope_at rfl fun X W cdv A outer s H E eX hr hgd tk hp hcode => ?_
  subst eX
  have hN := sc_slope_at.nd
  exact dss_cons (ds_asg (de_call (w_wire_line Z) (hr.mono (by decide)) (fun z => nomatch z) tk rfl Z.g_wire_line Z.ok_wire_line.kp (binds_wire_line Z) (dl_cons (de_var 0) (dl_cons (de_var 1) (dl_cons (de_var 2) (dl_nil))))) (dg_tup rfl (dgs_cons (dg_name 3 hN) (dgs_cons (dg_name 4 hN) (dgs_cons (dg_name 5 hN) (dgs_nil))))))
    (dss_cons (ds_if (dt_cmp op_isN ops_isN (de_var 5) (de_non)) (dss_one (ds_ret (de_non))) (dss_nil))
    (dss_cons (ds_set 6 hN (de_ixT (de_ixT (de_ixT (de_var 0) (de_int)) (de_ixT (de_var 3) (de_neg (de_int)))) (de_var 2)))
    (dss_one (ds_ret (de_tup (dl_cons (de_var 5) (dl_cons (de_op op_sub ops_sub (de_callB call_len cs_len rfl Z.b_len boot_len (dl_cons (de_var 3) (dl_nil))) (de_var 5)) (dl_cons (de_call (w_taken_off Z) (hr.mono (by decide)) (fun z => nomatch z) tk rfl Z.g_taken_off Z.ok_taken_off.kp (binds_taken_off Z) (dl_cons (de_call (w_added Z) (hr.mono (by decide)) (fun z => nomatch z) tk rfl Z.g_added Z.ok_added.kp (binds_added Z) (dl_cons (de_ixT (de_var 4) (de_neg (de_int))) (dl_cons (de_ixT (de_var 6) (de_int)) (dl_nil)))) (dl_cons (de_ixT (de_var 4) (de_var 5)) (dl_nil)))) (dl_nil)))))))))
theorem sc_led_by : FnScope ["machine", "mode", "wire", "many", "modes", "givens", "threshold", "first", "period", "slope", "laps", "place"] ["machine", "mode", "wire", "many"] (defScope s_led_by) := ⟨rfl, rfl, rfl, by decide +kernel, rfl, by decide +kernel, by decide +kernel⟩
theorem w_led_by (Z : Fx K mg) : FnG P w K mg base 4 false (Z.fA 8) (Z.fD 8) ["machine", "mode", "wire", "many"] (spD K p_led_by) := by
  refine fng_def (N := ["machine", "mode", "wire", "many", "modes", "givens", "threshold", "first", "period", "slope", "laps", "place"]) (keep := [false, false, false, false]) Z.ok_led_by sc_led_by rfl fun X W cdv A outer s H E eX hr hgd tk hp hcode => ?_
  subst eX
  have hN := sc_led_by.nd
  exact dss_cons (ds_asg (de_call (w_wire_line Z) (hr.mono (by decide)) (fun z => nomatch z) tk rfl Z.g_wire_line Z.ok_wire_line.kp (binds_wire_line Z) (dl_cons (de_var 0) (dl_cons (de_var 1) (dl_cons (de_var 2) (dl_nil))))) (dg_tup rfl (dgs_cons (dg_name 4 hN) (dgs_cons (dg_name 5 hN) (dgs_cons (dg_name 6 hN) (dgs_nil))))))
    (dss_cons (ds_if (dt_cmp op_lt ops_lt (de_var 3) (de_callB call_len cs_len rfl Z.b_len boot_len (dl_cons (de_var 4) (dl_nil)))) (dss_one (ds_ret (de_tup (dl_cons (de_ixT (de_var 4) (de_var 3)) (dl_cons (de_ixT (de_var 5) (de_var 3)) (dl_nil)))))) (dss_nil))
    (dss_cons (ds_if (dt_cmp op_isN ops_isN (de_var 6) (de_non)) (dss_one (ds_ret (de_non))) (dss_nil))
    (dss_cons (ds_asg (de_call (w_slope_at Z) (hr.mono (by decide)) (fun z => nomatch z) tk rfl Z.g_slope_at Z.ok_slope_at.kp (binds_slope_at Z) (dl_cons (de_var 0) (dl_cons (de_var 1) (dl_cons (de_var 2) (dl_nil))))) (dg_tup rfl (dgs_cons (dg_name 7 hN) (dgs_cons (dg_name 8 hN) (dgs_cons (dg_name 9 hN) (dgs_nil))))))
    (dss_cons (ds_set 10 hN (de_op op_fdiv ops_div (de_op op_sub ops_sub (de_var 3) (de_var 7)) (de_var 8)))
    (dss_cons (ds_set 11 hN (de_op op_sub ops_sub (de_var 3) (de_op op_mul ops_mul (de_var 10) (de_var 8))))
    (dss_one (ds_ret (de_tup (dl_cons (de_ixT (de_var 4) (de_var 11)) (dl_cons (de_call (w_added Z) (hr.mono (by decide)) (fun z => nomatch z) tk rfl Z.g_added Z.ok_added.kp (binds_added Z) (dl_cons (de_ixT (de_var 5) (de_var 11)) (dl_cons (de_call (w_times Z) (hr.mono (by decide)) (fun z => nomatch z) tk rfl Z.g_times Z.ok_times.kp (binds_times Z) (dl_cons (de_var 9) (dl_cons (de_var 10) (dl_nil)))) (dl_nil)))) (dl_nil)))))))))))
theorem sc_led : FnScope ["machine", "mode", "vector", "here", "given", "wire", "many", "told"] ["machine", "mode", "vector"] (defScope s_led) := ⟨rfl, rfl, rfl, by decide +kernel, rfl, by decide +kernel, by decide +kernel⟩
theorem w_led (Z : Fx K mg) : FnG P w K mg base 5 false (Z.fA 9) (Z.fD 9) ["machine", "mode", "vector"] (spD K p_led) := by
  refine fng_def (N := ["machine", "mode", "vector", "here", "given", "wire", "many", "told"]) (keep := [false, false, false]) Z.ok_led sc_led rfl fun X W cdv A outer s H E eX hr hgd tk hp hcode => ?_
  subst eX
  have hN := sc_led.nd
  exact dss_cons (ds_par 3 4 rfl hN (dl_cons (de_var 1) (dl_cons (de_call (w_nothing Z) (hr.mono (by decide)) (fun z => nomatch z) tk rfl Z.g_nothing Z.ok_nothing.kp (binds_nothing Z) (dl_cons (de_ixT (de_var 0) (de_int)) (dl_nil))) (dl_nil))))
    (dss_cons (ds_for (prot' := []) hp rfl (di_enumT rfl Z.b_enumerate (dl_cons (de_var 2) (dl_nil))) (dg_tup rfl (dgs_cons (dg_name 5 hN) (dgs_cons (dg_name 6 hN) (dgs_nil)))) (dss_cons (ds_set 7 hN (de_call (w_led_by Z) (hr.mono (by decide)) (fun z => nomatch z) tk rfl Z.g_led_by Z.ok_led_by.kp (binds_led_by Z) (dl_cons (de_var 0) (dl_cons (de_var 3) (dl_cons (de_var 5) (dl_cons (de_var 6) (dl_nil)))))))
    (dss_cons (ds_if (dt_cmp op_isN ops_isN (de_var 7) (de_non)) (dss_one (ds_ret (de_non))) (dss_nil))
    (dss_one (ds_par 3 4 rfl hN (dl_cons (de_ixT (de_var 7) (de_int)) (dl_cons (de_call (w_added Z) (hr.mono (by decide)) (fun z => nomatch z) tk rfl Z.g_added Z.ok_added.kp (binds_added Z) (dl_cons (de_var 4) (dl_cons (de_ixT (de_var 7) (de_int)) (dl_nil)))) (dl_nil))))))))
    (dss_one (ds_ret (de_tup (dl_cons (de_var 3) (dl_cons (de_var 4) (dl_nil)))))))
theorem sc_need_rest : FnScope ["machine", "mode"] ["machine"] (defScope s_need_rest) := ⟨rfl, rfl, rfl, by decide +kernel, rfl, by decide +kernel, by decide +kernel⟩
theorem w_need_rest (Z : Fx K mg) : FnG P w K mg base 3 false (Z.fA 10) (Z.fD 10) ["machine"] (spD K (p_need_rest (.ref Z.C))) := by
  refine fng_def (N := ["machine", "mode"]) (keep := [false]) Z.ok_need_rest sc_need_rest rfl fun X W cdv A outer s H E eX hr hgd tk hp hcode => ?_
  subst eX
  have hN := sc_need_rest.nd
  exact dss_one (ds_for (prot' := []) hp rfl (di_tup (de_call (w_modes_come_to Z) (hr.mono (by decide)) (fun z => nomatch z) tk rfl Z.g_modes_come_to Z.ok_modes_come_to.kp (binds_modes_come_to Z) (dl_cons (de_var 0) (dl_nil)))) (dg_name 1 hN) (dss_one (ds_if (dt_cmp (op_inN hr.u65) (ops_inN false) (de_non) (de_ixT (de_ixT (de_var 0) (de_int)) (de_var 1))) (dss_one (ds_raise0 rfl tk Z.x_NotOfIt rfl)) (dss_nil))))
theorem sc_home_input : FnScope ["machine", "found", "wire", "threshold", "period", "slope"] ["machine"] (defScope s_home_input) := ⟨rfl, rfl, rfl, by decide +kernel, rfl, by decide +kernel, by decide +kernel⟩
theorem w_home_input (Z : Fx K mg) : FnG P w K mg base 4 false (Z.fA 11) (Z.fD 11) ["machine"] (spD K (p_home_input (.ref Z.C))) := by
  refine fng_def (N := ["machine", "found", "wire", "threshold", "period", "slope"]) (keep := [false]) Z.ok_home_input sc_home_input rfl fun X W cdv A outer s H E eX hr hgd tk hp hcode => ?_
  subst eX
  have hN := sc_home_input.nd
  exact dss_cons (ds_exp (de_call (w_need_rest Z) (hr.mono (by decide)) (fun z => nomatch z) tk rfl Z.g_need_rest Z.ok_need_rest.kp (binds_need_rest Z) (dl_cons (de_var 0) (dl_nil))))
    (dss_cons (ds_set 1 hN (de_lst (dl_nil)))
    (dss_cons (ds_for (prot' := []) hp rfl (di_range1 rfl Z.b_range (dl_cons (de_ixT (de_var 0) (de_int)) (dl_nil))) (dg_name 2 hN) (dss_cons (ds_asg (de_call (w_slope_at Z) (hr.mono (by decide)) (fun z => nomatch z) tk rfl Z.g_slope_at Z.ok_slope_at.kp (binds_slope_at Z) (dl_cons (de_var 0) (dl_cons (de_int) (dl_cons (de_var 2) (dl_nil))))) (dg_tup rfl (dgs_cons (dg_name 3 hN) (dgs_cons (dg_name 4 hN) (dgs_cons (dg_name 5 hN) (dgs_nil))))))
    (dss_one (ds_exp (de_mtm 1 F.plainAttrs_list F.slot_list_append F.type_list_append mt_append mts_app (dl_cons (de_op op_mul ops_mul (de_op op_fdiv ops_div (de_op op_sub ops_sub (de_op op_add ops_add (de_var 3) (de_var 4)) (de_int)) (de_var 4)) (de_var 4)) (dl_nil)))))))
    (dss_one (ds_ret (de_callTy call_tuple_of cs_tupOf rfl Z.b_tuple boot_tuple (dl_cons (de_var 1) (dl_nil)))))))
theorem sc_home_mode : FnScope ["machine"] ["machine"] (defScope s_home_mode) := ⟨rfl, rfl, rfl, by decide +kernel, rfl, by decide +kernel, by decide +kernel⟩
theorem w_home_mode (Z : Fx K mg) : FnG P w K mg base 6 false (Z.fA 12) (Z.fD 12) ["machine"] (spD K (p_home_mode (.ref Z.C))) := by
  refine fng_def (N := ["machine"]) (keep := [false]) Z.ok_home_mode sc_home_mode rfl fun X W cdv A outer s H E eX hr hgd tk hp hcode => ?_
  subst eX
  have hN := sc_home_mode.nd
  exact dss_one (ds_ret (de_ixT (de_call (w_led Z) (hr.mono (by decide)) (fun z => nomatch z) tk rfl Z.g_led Z.ok_led.kp (binds_led Z) (dl_cons (de_var 0) (dl_cons (de_int) (dl_cons (de_call (w_home_input Z) (hr.mono (by decide)) (fun z => nomatch z) tk rfl Z.g_home_input Z.ok_home_input.kp (binds_home_input Z) (dl_cons (de_var 0) (dl_nil))) (dl_nil))))) (de_int)))
theorem sc_modes_again : FnScope ["machine", "first", "found", "line", "late", "given"] ["machine"] (defScope s_modes_again) := ⟨rfl, rfl, rfl, by decide +kernel, rfl, by decide +kernel, by decide +kernel⟩
theorem w_modes_again (Z : Fx K mg) : FnG P w K mg base 7 false (Z.fA 13) (Z.fD 13) ["machine"] (spD K (p_modes_again (.ref Z.C))) := by
  refine fng_def (N := ["machine", "first", "found", "line", "late", "given"]) (keep := [false]) Z.ok_modes_again sc_modes_again rfl fun X W cdv A outer s H E eX hr hgd tk hp hcode => ?_
  subst eX
  have hN := sc_modes_again.nd
  exact dss_cons (ds_set 1 hN (de_call (w_home_mode Z) (hr.mono (by decide)) (fun z => nomatch z) tk rfl Z.g_home_mode Z.ok_home_mode.kp (binds_home_mode Z) (dl_cons (de_var 0) (dl_nil))))
    (dss_cons (ds_par 2 3 rfl hN (dl_cons (de_disp (dps_cons (de_var 1) (de_bl) (dps_nil))) (dl_cons (de_lst (dl_cons (de_var 1) (dl_nil))) (dl_nil))))
    (dss_cons (ds_while 1000 hp (dt_cmp (op_neD hr.units) ops_ne (de_var 3) (de_lst (dl_nil))) (dss_one (ds_for (prot' := []) hp rfl (di_tup (de_ixT (de_ixT (de_var 0) (de_int)) (de_mtm0 3 F.plainAttrs_list F.slot_list_pop F.type_list_pop mt_pop mts_pop))) (dg_tup rfl (dgs_cons (dg_name 4 hN) (dgs_cons (dg_name 5 hN) (dgs_nil)))) (dss_one (ds_if (dt_ninD hr.u1 (de_var 4) (de_var 2)) (dss_cons (ds_put 2 hr.u1 (de_var 4) (de_bl))
    (dss_one (ds_exp (de_mtm 3 F.plainAttrs_list F.slot_list_append F.type_list_append mt_append mts_app (dl_cons (de_var 4) (dl_nil)))))) (dss_nil))))))
    (dss_one (ds_ret (de_callTy call_tuple_of cs_tupOf rfl Z.b_tuple boot_tuple (dl_cons (de_callB (call_sortedDI rfl) cs_sortD rfl Z.b_sorted boot_sorted (dl_cons (de_var 2) (dl_nil))) (dl_nil)))))))
theorem sc__law_source : FnScope ["script", "mixed", "cell"] ["script"] (defScope s__law_source) := ⟨rfl, rfl, rfl, by decide +kernel, rfl, by decide +kernel, by decide +kernel⟩
theorem w__law_source (Z : Fx K mg) : FnG P w K mg base 1 false (Z.fA 14) (Z.fD 14) ["script"] (spD K p__law_source) := by
  refine fng_def (N := ["script", "mixed", "cell"]) (keep := [false]) Z.ok__law_source sc__law_source rfl fun X W cdv A outer s H E eX hr hgd tk hp hcode => ?_
  subst eX
  have hN := sc__law_source.nd
  exact dss_cons (ds_set 1 hN (de_int))
    (dss_cons (ds_for (prot' := [0]) hp rfl (di_list (de_var 0)) (dg_name 2 hN) (dss_one (ds_set 1 hN (de_op op_mod ops_mod (de_callTy call_int1 cs_int rfl Z.b_int boot_int (dl_cons (de_op op_add ops_add (de_op op_add ops_add (de_op op_mul ops_mul (de_var 1) (de_int)) (de_op op_mul ops_mul (de_var 2) (de_int))) (de_int)) (dl_nil))) (de_int)))))
    (dss_one (ds_ret (de_disp (dps_cons (de_str) (de_rev (de_lc [("cell", 2)] rfl hN (di_list (de_var 0)) (blkOk_by (by kernel_rfl)) (fun s H C cl fp => dg_name 2 hN (not_but (by decide))) (fun s H C cl fp => dts_nil) (fun s H C cl fp => de_callB call_abs cs_abs rfl Z.b_abs boot_abs (dl_cons (de_var 2) (dl_nil))))) (dps_cons (de_str) (de_int) (dps_cons (de_str) (de_var 1) (dps_cons (de_str) (de_int) (dps_nil)))))))))
theorem sc__law_pick : FnScope ["source", "many", "left", "mixed"] ["source", "many"] (defScope s__law_pick) := ⟨rfl, rfl, rfl, by decide +kernel, rfl, by decide +kernel, by decide +kernel⟩
theorem w__law_pick (Z : Fx K mg) : FnG P w K mg base 1 false (Z.fA 15) (Z.fD 15) ["source", "many"] (spD K p__law_pick) := by
  refine fng_def (N := ["source", "many", "left", "mixed"]) (keep := [true, false]) Z.ok__law_pick sc__law_pick rfl fun X W cdv A outer s H E eX hr hgd tk hp hcode => ?_
  subst eX
  have hN := sc__law_pick.nd
  exact dss_cons (ds_while 1000 hp (dt_w (dw_and (dt_cmp op_gt ops_gt (de_var 1) (de_int)) (dw_and (dt_cmp op_lt ops_lt (de_ixD hr.u1 (de_var 0) (de_str)) (de_int)) (dw_and1 (dt_cmp op_gt ops_gt (de_callB call_len cs_len rfl Z.b_len boot_len (dl_cons (de_ixD hr.u1 (de_var 0) (de_str)) (dl_nil))) (de_int)))))) (dss_one (ds_put 0 hr.u1 (de_str) (de_popK 0 hr.u1))))
    (dss_cons (ds_set 2 hN (de_ixD hr.u1 (de_var 0) (de_str)))
    (dss_cons (ds_if (dt_w (dw_or (dt_cmp op_lt ops_lt (de_var 1) (de_int)) (dw_or1 (dt_cmp op_gt ops_gt (de_var 2) (de_int))))) (dss_cons (ds_put 0 hr.u1 (de_str) (de_op op_fdiv ops_div (de_var 2) (de_callB (call_max2 rfl) cs_max rfl Z.b_max boot_max (dl_cons (de_int) (dl_cons (de_var 1) (dl_nil))))))
    (dss_one (ds_ret (de_op op_mod ops_mod (de_callTy call_int1 cs_int rfl Z.b_int boot_int (dl_cons (de_var 2) (dl_nil))) (de_callB (call_max2 rfl) cs_max rfl Z.b_max boot_max (dl_cons (de_int) (dl_cons (de_var 1) (dl_nil)))))))) (dss_nil))
    (dss_cons (ds_put 0 hr.u1 (de_str) (de_op op_add ops_add (de_ixD hr.u1 (de_var 0) (de_str)) (de_int)))
    (dss_cons (ds_set 3 hN (de_op op_mod ops_mod (de_callTy call_int1 cs_int rfl Z.b_int boot_int (dl_cons (de_op op_add ops_add (de_ixD hr.u1 (de_var 0) (de_str)) (de_op op_mul ops_mul (de_ixD hr.u1 (de_var 0) (de_str)) (de_int))) (dl_nil))) (de_int)))
    (dss_cons (ds_set 3 hN (de_op op_mod ops_mod (de_callTy call_int1 cs_int rfl Z.b_int boot_int (dl_cons (de_op op_add ops_add (de_op op_mul ops_mul (de_var 3) (de_var 3)) (de_op op_mul ops_mul (de_ixD hr.u1 (de_var 0) (de_str)) (de_int))) (dl_nil))) (de_int)))
    (dss_cons (ds_put 0 hr.u1 (de_str) (de_var 3))
    (dss_one (ds_ret (de_op op_mod ops_mod (de_callTy call_int1 cs_int rfl Z.b_int boot_int (dl_cons (de_op op_fdiv ops_div (de_var 3) (de_int)) (dl_nil))) (de_var 1))))))))))
theorem sc__law_of : FnScope ["source", "some"] ["source", "some"] (defScope s__law_of) := ⟨rfl, rfl, rfl, by decide +kernel, rfl, by decide +kernel, by decide +kernel⟩
theorem w__law_of (Z : Fx K mg) : FnG P w K mg base 2 false (Z.fA 16) (Z.fD 16) ["source", "some"] (spD K p__law_of) := by
  refine fng_def (N := ["source", "some"]) (keep := [true, false]) Z.ok__law_of sc__law_of rfl fun X W cdv A outer s H E eX hr hgd tk hp hcode => ?_
  subst eX
  have hN := sc__law_of.nd
  exact dss_one (ds_ret (de_ixL (de_var 1) (de_call (w__law_pick Z) (hr.mono (by decide)) (fun z => nomatch z) tk rfl Z.g__law_pick Z.ok__law_pick.kp (binds__law_pick Z) (dl_cons (de_var 0) (dl_cons (de_callB call_len cs_len rfl Z.b_len boot_len (dl_cons (de_var 1) (dl_nil))) (dl_nil))))))
theorem sc__law_mixed : FnScope ["source", "things", "rest", "lap"] ["source", "things"] (defScope s__law_mixed) := ⟨rfl, rfl, rfl, by decide +kernel, rfl, by decide +kernel, by decide +kernel⟩
theorem w__law_mixed (Z : Fx K mg) : FnG P w K mg base 2 false (Z.fA 17) (Z.fD 17) ["source", "things"] (spD K p__law_mixed) := by
  refine fng_def (N := ["source", "things", "rest", "lap"]) (keep := [true, false]) Z.ok__law_mixed sc__law_mixed rfl fun X W cdv A outer s H E eX hr hgd tk hp hcode => ?_
  subst eX
  have hN := sc__law_mixed.nd
  exact dss_cons (ds_set 2 hN (de_callTy call_list_of cs_lstOf rfl Z.b_list boot_list (dl_cons (de_var 1) (dl_nil))))
    (dss_one (ds_ret (de_lc [("lap", 3)] rfl hN (di_range1 rfl Z.b_range (dl_cons (de_callB call_len cs_len rfl Z.b_len boot_len (dl_cons (de_var 2) (dl_nil))) (dl_nil))) (blkOk_by (by kernel_rfl)) (fun s H C cl fp => dg_name 3 hN (not_but (by decide))) (fun s H C cl fp => dts_nil) (fun s H C cl fp => de_mtm 2 F.plainAttrs_list F.slot_list_pop F.type_list_pop mt_popAt mts_popAt (dl_cons (de_call (w__law_pick Z) (hr.mono (by decide)) (fun z => nomatch z) takes_w0 rfl Z.g__law_pick Z.ok__law_pick.kp (binds__law_pick Z) (dl_cons (de_var 0) (dl_cons (de_callB call_len cs_len rfl Z.b_len boot_len (dl_cons (de_var 2) (dl_nil))) (dl_nil)))) (dl_nil))))))
theorem sc__law_grid : FnScope ["source", "ins", "sizes", "steps", "cells", "givens", "many", "back", "late", "cell", "order", "found", "line", "wire", "here", "k"] ["source", "ins", "sizes"] (defScope s__law_grid) := ⟨rfl, rfl, rfl, by decide +kernel, rfl, by decide +kernel, by decide +kernel⟩
theorem w__law_grid (Z : Fx K mg) : FnG P w K mg base 3 false (Z.fA 18) (Z.fD 18) ["source", "ins", "sizes"] (spD K p__law_grid) := by
  refine fng_def (N := ["source", "ins", "sizes", "steps", "cells", "givens", "many", "back", "late", "cell", "order", "found", "line", "wire", "here", "k"]) (keep := [true, false, true]) Z.ok__law_grid sc__law_grid rfl fun X W cdv A outer s H E eX hr hgd tk hp hcode => ?_
  subst eX
  have hN := sc__law_grid.nd
  exact dss_cons (ds_par3 3 4 5 rfl hN (dl_cons (de_dic0) (dl_cons (de_lst (dl_cons (de_tup (dl_nil)) (dl_nil))) (dl_cons (de_lst (dl_nil)) (dl_nil)))))
    (dss_cons (ds_for (prot' := [0, 2]) hp rfl (di_list (de_var 2)) (dg_tup rfl (dgs_cons (dg_name 6 hN) (dgs_cons (dg_name 7 hN) (dgs_nil)))) (dss_cons (ds_set 8 hN (de_lst (dl_nil)))
    (dss_cons (ds_for (prot' := [0, 2, 4]) hp rfl (di_list (de_var 4)) (dg_name 9 hN) (dss_one (ds_set 8 hN (de_op op_cat ops_cat (de_var 8) (de_lc [("k", 15)] rfl hN (di_range1 rfl Z.b_range (dl_cons (de_op op_add ops_add (de_var 6) (de_var 7)) (dl_nil))) (blkOk_by (by kernel_rfl)) (fun s H C cl fp => dg_name 15 hN (not_but (by decide))) (fun s H C cl fp => dts_nil) (fun s H C cl fp => de_op op_catA ops_catT (de_var 9) (de_tup (dl_cons (de_var 15) (dl_nil)))))))))
    (dss_cons (ds_set 4 hN (de_var 8))
    (dss_one (ds_exp (de_mtm 5 F.plainAttrs_list F.slot_list_append F.type_list_append mt_append mts_app (dl_cons (de_lc [("k", 15)] rfl hN (di_range1 rfl Z.b_range (dl_cons (de_op op_add ops_add (de_var 6) (de_var 7)) (dl_nil))) (blkOk_by (by kernel_rfl)) (fun s H C cl fp => dg_name 15 hN (not_but (by decide))) (fun s H C cl fp => dts_nil) (fun s H C cl fp => de_tup (dl_cons (de_call (w__law_of Z) (hr.mono (by decide)) (fun z => nomatch z) takes_w0 rfl Z.g__law_of Z.ok__law_of.kp (binds__law_of Z) (dl_cons (de_var 0) (dl_cons (de_lst (dl_cons (de_int) (dl_cons (de_int) (dl_cons (de_int) (dl_cons (de_int) (dl_nil)))))) (dl_nil)))) (dl_nil)))) (dl_nil)))))))))
    (dss_cons (ds_set 10 hN (de_op op_cat ops_cat (de_lst (dl_cons (de_ixL (de_var 4) (de_int)) (dl_nil))) (de_call (w__law_mixed Z) (hr.mono (by decide)) (fun z => nomatch z) tk rfl Z.g__law_mixed Z.ok__law_mixed.kp (binds__law_mixed Z) (dl_cons (de_var 0) (dl_cons (de_slL (de_var 4) (do_some (de_int)) do_none) (dl_nil))))))
    (dss_cons (ds_set 11 hN (de_lst (dl_nil)))
    (dss_cons (ds_for (prot' := [0, 2, 10]) hp rfl (di_list (de_var 10)) (dg_name 9 hN) (dss_cons (ds_set 12 hN (de_lst (dl_nil)))
    (dss_cons (ds_for (prot' := [0, 2, 10]) hp rfl (di_enumL rfl Z.b_enumerate (dl_cons (de_var 2) (dl_nil))) (dg_tup rfl (dgs_cons (dg_name 13 hN) (dgs_cons (dg_tup rfl (dgs_cons (dg_name 6 hN) (dgs_cons (dg_name 7 hN) (dgs_nil)))) (dgs_nil)))) (dss_cons (ds_set 14 hN (de_ixT (de_var 9) (de_var 13)))
    (dss_cons (ds_set 8 hN (de_if (dt_cmp op_lt ops_lt (de_op op_add ops_add (de_var 14) (de_int)) (de_op op_add ops_add (de_var 6) (de_var 7))) (de_op op_add ops_add (de_var 14) (de_int)) (de_var 6)))
    (dss_one (ds_exp (de_mtm 12 F.plainAttrs_list F.slot_list_append F.type_list_append mt_append mts_app (dl_cons (de_tup (dl_cons (de_mtm 10 F.plainAttrs_list F.slot_list_index F.type_list_index (mt_indexD hr.u65) mts_index (dl_cons (de_op op_catA ops_catT (de_op op_catA ops_catT (de_slT (de_var 9) do_none (do_some (de_var 13))) (de_tup (dl_cons (de_var 8) (dl_nil)))) (de_slT (de_var 9) (do_some (de_op op_add ops_add (de_var 13) (de_int))) do_none)) (dl_nil))) (dl_cons (de_ixL (de_ixL (de_var 5) (de_var 13)) (de_var 14)) (dl_nil)))) (dl_nil))))))))
    (dss_one (ds_exp (de_mtm 11 F.plainAttrs_list F.slot_list_append F.type_list_append mt_append mts_app (dl_cons (de_callTy call_tuple_of cs_tupOf rfl Z.b_tuple boot_tuple (dl_cons (de_var 12) (dl_nil))) (dl_nil))))))))
    (dss_one (ds_ret (de_tup (dl_cons (de_var 1) (dl_cons (de_int) (dl_cons (de_callTy call_tuple_of cs_tupOf rfl Z.b_tuple boot_tuple (dl_cons (de_var 11) (dl_nil))) (dl_nil)))))))))))
theorem sc__law_summed : FnScope ["source", "many", "back", "shares", "k", "numbers", "steps", "line", "share", "late", "given", "lap"] ["source", "many", "back", "shares"] (defScope s__law_summed) := ⟨rfl, rfl, rfl, by decide +kernel, rfl, by decide +kernel, by decide +kernel⟩
theorem w__law_summed (Z : Fx K mg) : FnG P w K mg base 3 false (Z.fA 19) (Z.fD 19) ["source", "many", "back", "shares"] (spD K p__law_summed) := by
  refine fng_def (N := ["source", "many", "back", "shares", "k", "numbers", "steps", "line", "share", "late", "given", "lap"]) (keep := [true, false, false, true]) Z.ok__law_summed sc__law_summed rfl fun X W cdv A outer s H E eX hr hgd tk hp hcode => ?_
  subst eX
  have hN := sc__law_summed.nd
  exact dss_cons (ds_setLc 5 [("k", 4)] rfl hN (di_range1 rfl Z.b_range (dl_cons (de_op op_add ops_add (de_var 1) (de_var 2)) (dl_nil))) (blkOk_by (by kernel_rfl)) (fun s H C cl fp => dg_name 4 hN (not_but (by decide))) (fun s H C cl fp => dts_nil) (fun s H C cl fp => de_call (w__law_of Z) (hr.mono (by decide)) (fun z => nomatch z) takes_w0 rfl Z.g__law_of Z.ok__law_of.kp (binds__law_of Z) (dl_cons (de_var 0) (dl_cons (de_lst (dl_cons (de_int) (dl_cons (de_int) (dl_nil)))) (dl_nil)))))
    (dss_cons (ds_set 6 hN (de_lst (dl_nil)))
    (dss_cons (ds_for (prot' := [0, 3]) hp rfl (di_range1 rfl Z.b_range (dl_cons (de_op op_add ops_add (de_var 1) (de_var 2)) (dl_nil))) (dg_name 4 hN) (dss_cons (ds_set 7 hN (de_lst (dl_nil)))
    (dss_cons (ds_for (prot' := [0, 3]) hp rfl (di_list (de_var 3)) (dg_name 8 hN) (dss_cons (ds_par 9 10 rfl hN (dl_cons (de_var 4) (dl_cons (de_int) (dl_nil))))
    (dss_cons (ds_for (prot' := [0, 3]) hp rfl (di_range1 rfl Z.b_range (dl_cons (de_var 8) (dl_nil))) (dg_name 11 hN) (dss_cons (ds_set 10 hN (de_op op_add ops_add (de_var 10) (de_ixL (de_var 5) (de_var 9))))
    (dss_one (ds_set 9 hN (de_if (dt_cmp op_lt ops_lt (de_op op_add ops_add (de_var 9) (de_int)) (de_op op_add ops_add (de_var 1) (de_var 2))) (de_op op_add ops_add (de_var 9) (de_int)) (de_var 1))))))
    (dss_one (ds_exp (de_mtm 7 F.plainAttrs_list F.slot_list_append F.type_list_append mt_append mts_app (dl_cons (de_tup (dl_cons (de_var 9) (dl_cons (de_tup (dl_cons (de_var 10) (dl_nil))) (dl_nil)))) (dl_nil))))))))
    (dss_one (ds_exp (de_mtm 6 F.plainAttrs_list F.slot_list_append F.type_list_append mt_append mts_app (dl_cons (de_callTy call_tuple_of cs_tupOf rfl Z.b_tuple boot_tuple (dl_cons (de_var 7) (dl_nil))) (dl_nil))))))))
    (dss_one (ds_ret (de_tup (dl_cons (de_callB call_len cs_len rfl Z.b_len boot_len (dl_cons (de_var 3) (dl_nil))) (dl_cons (de_int) (dl_cons (de_callTy call_tuple_of cs_tupOf rfl Z.b_tuple boot_tuple (dl_cons (de_var 6) (dl_nil))) (dl_nil)))))))))
theorem sc__law_modes : FnScope ["machine", "first", "found", "k", "step"] ["machine", "first"] (defScope s__law_modes) := ⟨rfl, rfl, rfl, by decide +kernel, rfl, by decide +kernel, by decide +kernel⟩
theorem w__law_modes (Z : Fx K mg) : FnG P w K mg base 1 false (Z.fA 20) (Z.fD 20) ["machine", "first"] (spD K p__law_modes) := by
  refine fng_def (N := ["machine", "first", "found", "k", "step"]) (keep := [false, false]) Z.ok__law_modes sc__law_modes rfl fun X W cdv A outer s H E eX hr hgd tk hp hcode => ?_
  subst eX
  have hN := sc__law_modes.nd
  exact dss_cons (ds_par 2 3 rfl hN (dl_cons (de_lst (dl_cons (de_var 1) (dl_nil))) (dl_cons (de_int) (dl_nil))))
    (dss_cons (ds_while 1000 hp (dt_cmp op_lt ops_lt (de_var 3) (de_callB call_len cs_len rfl Z.b_len boot_len (dl_cons (de_var 2) (dl_nil)))) (dss_cons (ds_for (prot' := []) hp rfl (di_tup (de_ixT (de_ixT (de_var 0) (de_int)) (de_ixL (de_var 2) (de_var 3)))) (dg_name 4 hN) (dss_one (ds_if (dt_w (dw_and (dt_cmp op_notN ops_notN (de_var 4) (de_non)) (dw_and1 (dt_cmp (op_notInN hr.u65) (ops_inN true) (de_ixT (de_var 4) (de_int)) (de_var 2))))) (dss_one (ds_exp (de_mtm 2 F.plainAttrs_list F.slot_list_append F.type_list_append mt_append mts_app (dl_cons (de_ixT (de_var 4) (de_int)) (dl_nil))))) (dss_nil))))
    (dss_one (ds_set 3 hN (de_op op_add ops_add (de_var 3) (de_int))))))
    (dss_one (ds_ret (de_var 2))))
theorem sc__law_again : FnScope ["machine", "reach", "mode", "late"] ["machine"] (defScope s__law_again) := ⟨rfl, rfl, rfl, by decide +kernel, rfl, by decide +kernel, by decide +kernel⟩
theorem w__law_again (Z : Fx K mg) : FnG P w K mg base 2 false (Z.fA 21) (Z.fD 21) ["machine"] (spD K p__law_again) := by
  refine fng_def (N := ["machine", "reach", "mode", "late"]) (keep := [false]) Z.ok__law_again sc__law_again rfl fun X W cdv A outer s H E eX hr hgd tk hp hcode => ?_
  subst eX
  have hN := sc__law_again.nd
  exact dss_cons (ds_set 1 hN (de_dict rfl rfl Z.b_dict boot_dict (dl_cons (de_lc [("mode", 2)] rfl hN (di_list (de_call (w__law_modes Z) (hr.mono (by decide)) (fun z => nomatch z) tk rfl Z.g__law_modes Z.ok__law_modes.kp (binds__law_modes Z) (dl_cons (de_var 0) (dl_cons (de_int) (dl_nil))))) (blkOk_by (by kernel_rfl)) (fun s H C cl fp => dg_name 2 hN (not_but (by decide))) (fun s H C cl fp => dts_nil) (fun s H C cl fp => de_tup (dl_cons (de_var 2) (dl_cons (de_call (w__law_modes Z) (hr.mono (by decide)) (fun z => nomatch z) takes_w0 rfl Z.g__law_modes Z.ok__law_modes.kp (binds__law_modes Z) (dl_cons (de_var 0) (dl_cons (de_var 2) (dl_nil)))) (dl_nil))))) (dl_nil))))
    (dss_one (ds_ret (de_callTy call_tuple_of cs_tupOf rfl Z.b_tuple boot_tuple (dl_cons (de_lc [("mode", 2)] rfl hN (di_list (de_callB (call_sortedDI rfl) cs_sortD rfl Z.b_sorted boot_sorted (dl_cons (de_var 1) (dl_nil)))) (blkOk_by (by kernel_rfl)) (fun s H C cl fp => dg_name 2 hN (not_but (by decide))) (fun s H C cl fp => dts_one (dt_cmp (op_eqD hr.units) ops_eq (de_lc [("late", 3)] rfl hN (di_list (de_ixD hr.u1 (de_var 1) (de_var 2))) (blkOk_by (by kernel_rfl)) (fun s H C cl fp => dg_name 3 hN (not_but (by decide))) (fun s H C cl fp => dts_one (dt_cmp (op_notInN hr.u65) (ops_inN true) (de_var 2) (de_ixD hr.u1 (de_var 1) (de_var 3)))) (fun s H C cl fp => de_var 3)) (de_lst (dl_nil)))) (fun s H C cl fp => de_var 2)) (dl_nil)))))
theorem sc__law_line : FnScope ["machine", "mode", "wire", "met", "lap", "late"] ["machine", "mode", "wire"] (defScope s__law_line) := ⟨rfl, rfl, rfl, by decide +kernel, rfl, by decide +kernel, by decide +kernel⟩
theorem w__law_line (Z : Fx K mg) : FnG P w K mg base 1 false (Z.fA 22) (Z.fD 22) ["machine", "mode", "wire"] (spD K p__law_line) := by
  refine fng_def (N := ["machine", "mode", "wire", "met", "lap", "late"]) (keep := [false, false, false]) Z.ok__law_line sc__law_line rfl fun X W cdv A outer s H E eX hr hgd tk hp hcode => ?_
  subst eX
  have hN := sc__law_line.nd
  exact dss_cons (ds_set 3 hN (de_lst (dl_cons (de_var 1) (dl_nil))))
    (dss_cons (ds_for (prot' := []) hp rfl (di_range1 rfl Z.b_range (dl_cons (de_op op_add ops_add (de_callB call_len cs_len rfl Z.b_len boot_len (dl_cons (de_ixT (de_var 0) (de_int)) (dl_nil))) (de_int)) (dl_nil))) (dg_name 4 hN) (dss_cons (ds_set 5 hN (de_ixT (de_ixT (de_ixT (de_ixT (de_var 0) (de_int)) (de_ixL (de_var 3) (de_neg (de_int)))) (de_var 2)) (de_int)))
    (dss_cons (ds_if (dt_cmp (op_inN hr.u65) (ops_inN false) (de_var 5) (de_var 3)) (dss_one (ds_ret (de_tup (dl_cons (de_mtm 3 F.plainAttrs_list F.slot_list_index F.type_list_index (mt_indexD hr.u65) mts_index (dl_cons (de_var 5) (dl_nil))) (dl_cons (de_op op_sub ops_sub (de_callB call_len cs_len rfl Z.b_len boot_len (dl_cons (de_var 3) (dl_nil))) (de_mtm 3 F.plainAttrs_list F.slot_list_index F.type_list_index (mt_indexD hr.u65) mts_index (dl_cons (de_var 5) (dl_nil)))) (dl_nil)))))) (dss_nil))
    (dss_one (ds_exp (de_mtm 3 F.plainAttrs_list F.slot_list_append F.type_list_append mt_append mts_app (dl_cons (de_var 5) (dl_nil))))))))
    (dss_one (ds_ret (de_non))))
theorem sc__law_home : FnScope ["machine", "found", "wire", "threshold", "period"] ["machine"] (defScope s__law_home) := ⟨rfl, rfl, rfl, by decide +kernel, rfl, by decide +kernel, by decide +kernel⟩
theorem w__law_home (Z : Fx K mg) : FnG P w K mg base 2 false (Z.fA 23) (Z.fD 23) ["machine"] (spD K p__law_home) := by
  refine fng_def (N := ["machine", "found", "wire", "threshold", "period"]) (keep := [false]) Z.ok__law_home sc__law_home rfl fun X W cdv A outer s H E eX hr hgd tk hp hcode => ?_
  subst eX
  have hN := sc__law_home.nd
  exact dss_cons (ds_set 1 hN (de_lst (dl_nil)))
    (dss_cons (ds_for (prot' := []) hp rfl (di_range1 rfl Z.b_range (dl_cons (de_ixT (de_var 0) (de_int)) (dl_nil))) (dg_name 2 hN) (dss_cons (ds_asg (de_call (w__law_line Z) (hr.mono (by decide)) (fun z => nomatch z) tk rfl Z.g__law_line Z.ok__law_line.kp (binds__law_line Z) (dl_cons (de_var 0) (dl_cons (de_int) (dl_cons (de_var 2) (dl_nil))))) (dg_tup rfl (dgs_cons (dg_name 3 hN) (dgs_cons (dg_name 4 hN) (dgs_nil)))))
    (dss_one (ds_exp (de_mtm 1 F.plainAttrs_list F.slot_list_append F.type_list_append mt_append mts_app (dl_cons (de_op op_mul ops_mul (de_op op_fdiv ops_div (de_op op_sub ops_sub (de_op op_add ops_add (de_var 3) (de_var 4)) (de_int)) (de_var 4)) (de_var 4)) (dl_nil)))))))
    (dss_one (ds_ret (de_callTy call_tuple_of cs_tupOf rfl Z.b_tuple boot_tuple (dl_cons (de_var 1) (dl_nil))))))
theorem sc__law_led : FnScope ["machine", "mode", "one", "wire", "many", "lap"] ["machine", "mode", "one"] (defScope s__law_led) := ⟨rfl, rfl, rfl, by decide +kernel, rfl, by decide +kernel, by decide +kernel⟩
theorem w__law_led (Z : Fx K mg) : FnG P w K mg base 1 false (Z.fA 24) (Z.fD 24) ["machine", "mode", "one"] (spD K p__law_led) := by
  refine fng_def (N := ["machine", "mode", "one", "wire", "many", "lap"]) (keep := [false, false, false]) Z.ok__law_led sc__law_led rfl fun X W cdv A outer s H E eX hr hgd tk hp hcode => ?_
  subst eX
  have hN := sc__law_led.nd
  exact dss_cons (ds_for (prot' := []) hp rfl (di_enumT rfl Z.b_enumerate (dl_cons (de_var 2) (dl_nil))) (dg_tup rfl (dgs_cons (dg_name 3 hN) (dgs_cons (dg_name 4 hN) (dgs_nil)))) (dss_one (ds_for (prot' := []) hp rfl (di_range1 rfl Z.b_range (dl_cons (de_var 4) (dl_nil))) (dg_name 5 hN) (dss_one (ds_set 1 hN (de_ixT (de_ixT (de_ixT (de_ixT (de_var 0) (de_int)) (de_var 1)) (de_var 3)) (de_int)))))))
    (dss_one (ds_ret (de_var 1)))
theorem sc__law_group_right : FnScope ["machine", "lot", "home", "wire", "ways", "line", "here", "late", "one", "other", "both", "mode", "k", "number", "a", "b"] ["machine", "lot", "home"] (defScope s__law_group_right) := ⟨rfl, rfl, rfl, by decide +kernel, rfl, by decide +kernel, by decide +kernel⟩
theorem w__law_group_right (Z : Fx K mg) : FnG P w K mg base 2 false (Z.fA 26) (Z.fD 26) ["machine", "lot", "home"] (spD K p__law_group_right) := by
  refine fng_def (N := ["machine", "lot", "home", "wire", "ways", "line", "here", "late", "one", "other", "both", "mode", "k", "number", "a", "b"]) (keep := [false, false, false]) Z.ok__law_group_right sc__law_group_right rfl fun X W cdv A outer s H E eX hr hgd tk hp hcode => ?_
  subst eX
  have hN := sc__law_group_right.nd
  exact dss_cons (ds_for (prot' := []) hp rfl (di_range1 rfl Z.b_range (dl_cons (de_ixT (de_var 0) (de_int)) (dl_nil))) (dg_name 3 hN) (dss_one (ds_if (dt_cmp (op_neD hr.units) ops_ne (de_callB cr_sortedI cs_sortL rfl Z.b_sorted boot_sorted (dl_cons (de_lc [("mode", 11)] rfl hN (di_tup (de_var 1)) (blkOk_by (by kernel_rfl)) (fun s H C cl fp => dg_name 11 hN (not_but (by decide))) (fun s H C cl fp => dts_nil) (fun s H C cl fp => de_ixT (de_ixT (de_ixT (de_ixT (de_var 0) (de_int)) (de_var 11)) (de_var 3)) (de_int))) (dl_nil))) (de_callTy call_list_of cs_lstOf rfl Z.b_list boot_list (dl_cons (de_var 1) (dl_nil)))) (dss_one (ds_ret (de_bl))) (dss_nil))))
    (dss_cons (ds_par 4 5 rfl hN (dl_cons (de_disp (dps_cons (de_var 2) (de_op op_repAny ops_repT (de_tup (dl_cons (de_int) (dl_nil))) (de_ixT (de_var 0) (de_int))) (dps_nil))) (dl_cons (de_lst (dl_cons (de_var 2) (dl_nil))) (dl_nil))))
    (dss_cons (ds_while 1000 hp (dt_cmp (op_neD hr.units) ops_ne (de_var 5) (de_lst (dl_nil))) (dss_cons (ds_set 6 hN (de_mtm0 5 F.plainAttrs_list F.slot_list_pop F.type_list_pop mt_pop mts_pop))
    (dss_one (ds_for (prot' := []) hp rfl (di_range1 rfl Z.b_range (dl_cons (de_ixT (de_var 0) (de_int)) (dl_nil))) (dg_name 3 hN) (dss_cons (ds_set 7 hN (de_ixT (de_ixT (de_ixT (de_ixT (de_var 0) (de_int)) (de_var 6)) (de_var 3)) (de_int)))
    (dss_one (ds_if (dt_ninD hr.u1 (de_var 7) (de_var 4)) (dss_cons (ds_put 4 hr.u1 (de_var 7) (de_callTy call_tuple_of cs_tupOf rfl Z.b_tuple boot_tuple (dl_cons (de_lc [("k", 12), ("number", 13)] rfl hN (di_enumT rfl Z.b_enumerate (dl_cons (de_ixD hr.u1 (de_var 4) (de_var 6)) (dl_nil))) (blkOk_by (by kernel_rfl)) (fun s H C cl fp => dg_tup rfl (dgs_cons (dg_name 12 hN (not_but (by decide))) (dgs_cons (dg_name 13 hN (not_but (by decide))) (dgs_nil)))) (fun s H C cl fp => dts_nil) (fun s H C cl fp => de_op op_add ops_add (de_var 13) (de_callTy call_int1 cs_int rfl Z.b_int boot_int (dl_cons (de_cmp (op_eqD hr.units) ops_eq (de_var 12) (de_var 3)) (dl_nil))))) (dl_nil))))
    (dss_one (ds_exp (de_mtm 5 F.plainAttrs_list F.slot_list_append F.type_list_append mt_append mts_app (dl_cons (de_var 7) (dl_nil)))))) (dss_nil))))))))
    (dss_cons (ds_if (dt_cmp (op_neD hr.units) ops_ne (de_callB (call_sortedDI rfl) cs_sortD rfl Z.b_sorted boot_sorted (dl_cons (de_var 4) (dl_nil))) (de_callTy call_list_of cs_lstOf rfl Z.b_list boot_list (dl_cons (de_var 1) (dl_nil)))) (dss_one (ds_ret (de_bl))) (dss_nil))
    (dss_cons (ds_for (prot' := []) hp rfl (di_tup (de_slT (de_var 1) do_none (do_some (de_int)))) (dg_name 8 hN) (dss_one (ds_for (prot' := []) hp rfl (di_tup (de_slT (de_var 1) (do_some (de_neg (de_int))) do_none)) (dg_name 9 hN) (dss_cons (ds_set 10 hN (de_callTy call_tuple_of cs_tupOf rfl Z.b_tuple boot_tuple (dl_cons (de_lc [("a", 14), ("b", 15)] rfl hN (di_zip rfl Z.b_zip (dl_cons (de_ixD hr.u1 (de_var 4) (de_var 8)) (dl_cons (de_ixD hr.u1 (de_var 4) (de_var 9)) (dl_nil)))) (blkOk_by (by kernel_rfl)) (fun s H C cl fp => dg_tup rfl (dgs_cons (dg_name 14 hN (not_but (by decide))) (dgs_cons (dg_name 15 hN (not_but (by decide))) (dgs_nil)))) (fun s H C cl fp => dts_nil) (fun s H C cl fp => de_op op_add ops_add (de_var 14) (de_var 15))) (dl_nil))))
    (dss_cons (ds_if (dt_cmp (op_neD hr.units) ops_ne (de_call (w__law_led Z) (hr.mono (by decide)) (fun z => nomatch z) tk rfl Z.g__law_led Z.ok__law_led.kp (binds__law_led Z) (dl_cons (de_var 0) (dl_cons (de_var 2) (dl_cons (de_var 10) (dl_nil))))) (de_call (w__law_led Z) (hr.mono (by decide)) (fun z => nomatch z) tk rfl Z.g__law_led Z.ok__law_led.kp (binds__law_led Z) (dl_cons (de_var 0) (dl_cons (de_var 8) (dl_cons (de_ixD hr.u1 (de_var 4) (de_var 9)) (dl_nil)))))) (dss_one (ds_ret (de_bl))) (dss_nil))
    (dss_one (ds_if (dt_cmp (op_neD hr.units) ops_ne (de_call (w__law_led Z) (hr.mono (by decide)) (fun z => nomatch z) tk rfl Z.g__law_led Z.ok__law_led.kp (binds__law_led Z) (dl_cons (de_var 0) (dl_cons (de_var 9) (dl_cons (de_ixD hr.u1 (de_var 4) (de_var 8)) (dl_nil))))) (de_call (w__law_led Z) (hr.mono (by decide)) (fun z => nomatch z) tk rfl Z.g__law_led Z.ok__law_led.kp (binds__law_led Z) (dl_cons (de_var 0) (dl_cons (de_var 8) (dl_cons (de_ixD hr.u1 (de_var 4) (de_var 9)) (dl_nil)))))) (dss_one (ds_ret (de_bl))) (dss_nil))))))))
    (dss_one (ds_ret (de_bl)))))))
theorem sc__law_never_right : FnScope ["machine", "idle", "told", "due", "never", "line"] ["machine"] (defScope s__law_never_right) := ⟨rfl, rfl, rfl, by decide +kernel, rfl, by decide +kernel, by decide +kernel⟩
theorem w__law_never_right (Z : Fx K mg) (Y : Lx Z base) : FnG P w K mg base 10 true (Z.fA 27) (Z.fD 27) ["machine"] (spD K (p__law_never_right (.ref Z.C))) := by
  refine fng_def (N := ["machine", "idle", "told", "due", "never", "line"]) (keep := [false]) Z.ok__law_never_right sc__law_never_right rfl fun X W cdv A outer s H E eX hr hgd tk hp hcode => ?_
  subst eX
  have hN := sc__law_never_right.nd
  exact dss_cons (ds_set 4 hN (de_op op_catA ops_catT (de_slT (de_var 0) do_none (do_some (de_int))) (de_tup (dl_cons (de_callTy call_tuple_of cs_tupOf rfl Z.b_tuple boot_tuple (dl_cons (de_lc [("line", 5)] rfl hN (di_tup (de_ixT (de_var 0) (de_int))) (blkOk_by (by kernel_rfl)) (fun s H C cl fp => dg_name 5 hN (not_but (by decide))) (fun s H C cl fp => dts_nil) (fun s H C cl fp => de_op op_catA ops_catT (de_tup (dl_cons (de_non) (dl_nil))) (de_slT (de_var 5) (do_some (de_int)) do_none))) (dl_nil))) (dl_nil)))))
    (dss_cons (ds_set 1 hN (de_op op_catA ops_catT (de_slT (de_var 0) do_none (do_some (de_int))) (de_tup (dl_cons (de_op op_catA ops_catT (de_ixT (de_var 0) (de_int)) (de_tup (dl_cons (de_op op_repAny ops_repT (de_tup (dl_cons (de_non) (dl_nil))) (de_ixT (de_var 0) (de_int))) (dl_nil)))) (dl_nil)))))
    (dss_cons (ds_set 2 hN (de_lst (dl_cons (de_try (k := 4) Z.ok__law_heard (binds__law_heard Z) rfl Z.g__law_heard sc__law_heard (Or.inl rfl) rfl rfl Z.x_NotOfIt.g (by decide) Z.m_NotOfIt Y.tb__law_never_right (hcode.symm.trans Z.co__law_never_right) cx_qual Y.m__law_never_right Y.u__law_never_right (hr.mono (by decide)) (LamX.lamS_by (by kernel_rfl)) rfl (fun _ _ _ _ _ => rfl) (fun A outer s H E f c' hr => de_call (w_home_input Z) (hr.mono (by decide)) (fun z => nomatch z) (takes_of rfl rfl rfl rfl) rfl Z.g_home_input Z.ok_home_input.kp (binds_home_input Z) (dl_cons (de_var 4) (dl_nil)))) (dl_nil))))
    (dss_cons (ds_exp (de_mtm 2 F.plainAttrs_list F.slot_list_append F.type_list_append mt_append mts_app (dl_cons (de_try (k := 7) Z.ok__law_heard (binds__law_heard Z) rfl Z.g__law_heard sc__law_heard (Or.inl rfl) rfl rfl Z.x_NotOfIt.g (by decide) Z.m_NotOfIt Y.tb__law_never_right (hcode.symm.trans Z.co__law_never_right) cx_qual Y.m__law_never_right Y.u__law_never_right (hr.mono (by decide)) (LamX.lamS_by (by kernel_rfl)) rfl (fun _ _ _ _ _ => rfl) (fun A outer s H E f c' hr => de_call (w_modes_again Z) (hr.mono (by decide)) (fun z => nomatch z) (takes_of rfl rfl rfl rfl) rfl Z.g_modes_again Z.ok_modes_again.kp (binds_modes_again Z) (dl_cons (de_var 4) (dl_nil)))) (dl_nil))))
    (dss_cons (ds_exp (de_mtm 2 F.plainAttrs_list F.slot_list_append F.type_list_append mt_append mts_app (dl_cons (de_try (k := 6) Z.ok__law_heard (binds__law_heard Z) rfl Z.g__law_heard sc__law_heard (Or.inl rfl) rfl rfl Z.x_NotOfIt.g (by decide) Z.m_NotOfIt Y.tb__law_never_right (hcode.symm.trans Z.co__law_never_right) cx_qual Y.m__law_never_right Y.u__law_never_right (hr.mono (by decide)) (LamX.lamS_by (by kernel_rfl)) rfl (fun _ _ _ _ _ => rfl) (fun A outer s H E f c' hr => de_call (w_home_mode Z) (hr.mono (by decide)) (fun z => nomatch z) (takes_of rfl rfl rfl rfl) rfl Z.g_home_mode Z.ok_home_mode.kp (binds_home_mode Z) (dl_cons (de_var 4) (dl_nil)))) (dl_nil))))
    (dss_cons (ds_set 3 hN (de_op op_rep ops_rep (de_lst (dl_cons (de_tup (dl_cons (de_str) (dl_nil))) (dl_nil))) (de_int)))
    (dss_one (ds_ret (de_and (de_cmp (op_eqD hr.units) ops_eq (de_callB (call_reprP (hgd rfl) hr.u65) cs_repr rfl Z.b_repr boot_repr (dl_cons (de_var 2) (dl_nil))) (de_callB (call_reprP (hgd rfl) hr.u65) cs_repr rfl Z.b_repr boot_repr (dl_cons (de_var 3) (dl_nil)))) (de_and1 (de_cmp (op_eqD hr.units) ops_eq (de_callB (call_reprP (hgd rfl) hr.u65) cs_repr rfl Z.b_repr boot_repr (dl_cons (de_call (w_modes_again Z) (hr.mono (by decide)) (fun z => nomatch z) tk rfl Z.g_modes_again Z.ok_modes_again.kp (binds_modes_again Z) (dl_cons (de_var 1) (dl_nil))) (dl_nil))) (de_callB (call_reprP (hgd rfl) hr.u65) cs_repr rfl Z.b_repr boot_repr (dl_cons (de_call (w_modes_again Z) (hr.mono (by decide)) (fun z => nomatch z) tk rfl Z.g_modes_again Z.ok_modes_again.kp (binds_modes_again Z) (dl_cons (de_var 0) (dl_nil))) (dl_nil)))))))))))))
theorem sc_law : FnScope ["script", "source", "lap", "ins", "sizes", "machine", "shares", "kept", "lot", "home", "mode", "here", "once", "halves", "first", "told", "wire"] ["script"] (defScope s_law) := ⟨rfl, rfl, rfl, by decide +kernel, rfl, by decide +kernel, by decide +kernel⟩
theorem w_law (Z : Fx K mg) (Y : Lx Z base) : FnG P w K mg base 11 true (Z.fA 28) (Z.fD 28) ["script"] (spD K (p_law (.ref Z.C))) := by
  refine fng_def (N := ["script", "source", "lap", "ins", "sizes", "machine", "shares", "kept", "lot", "home", "mode", "here", "once", "halves", "first", "told", "wire"]) (keep := [false]) Z.ok_law sc_law rfl fun X W cdv A outer s H E eX hr hgd tk hp hcode => ?_
  subst eX
  have hN := sc_law.nd
  exact dss_cons (ds_set 1 hN (de_call (w__law_source Z) (hr.mono (by decide)) (fun z => nomatch z) tk rfl Z.g__law_source Z.ok__law_source.kp (binds__law_source Z) (dl_cons (de_var 0) (dl_nil))))
    (dss_cons (ds_for (prot' := []) hp rfl (di_range1 rfl Z.b_range (dl_cons (de_int) (dl_nil))) (dg_name 2 hN) (dss_cons (ds_if (dt_cmp (op_eqD hr.units) ops_eq (de_call (w__law_pick Z) (hr.mono (by decide)) (fun z => nomatch z) tk rfl Z.g__law_pick Z.ok__law_pick.kp (binds__law_pick Z) (dl_cons (de_var 1) (dl_cons (de_int) (dl_nil)))) (de_int)) (dss_cons (ds_set 3 hN (de_call (w__law_of Z) (hr.mono (by decide)) (fun z => nomatch z) tk rfl Z.g__law_of Z.ok__law_of.kp (binds__law_of Z) (dl_cons (de_var 1) (dl_cons (de_lst (dl_cons (de_int) (dl_cons (de_int) (dl_cons (de_int) (dl_nil))))) (dl_nil)))))
    (dss_cons (ds_setLc 4 [("wire", 16)] rfl hN (di_range1 rfl Z.b_range (dl_cons (de_var 3) (dl_nil))) (blkOk_by (by kernel_rfl)) (fun s H C cl fp => dg_name 16 hN (not_but (by decide))) (fun s H C cl fp => dts_nil) (fun s H C cl fp => de_call (w__law_of Z) (hr.mono (by decide)) (fun z => nomatch z) takes_w0 rfl Z.g__law_of Z.ok__law_of.kp (binds__law_of Z) (dl_cons (de_var 1) (dl_cons (de_lst (dl_cons (de_tup (dl_cons (de_int) (dl_cons (de_int) (dl_nil)))) (dl_cons (de_tup (dl_cons (de_int) (dl_cons (de_int) (dl_nil)))) (dl_cons (de_tup (dl_cons (de_int) (dl_cons (de_int) (dl_nil)))) (dl_cons (de_tup (dl_cons (de_int) (dl_cons (de_int) (dl_nil)))) (dl_cons (de_tup (dl_cons (de_int) (dl_cons (de_int) (dl_nil)))) (dl_cons (de_tup (dl_cons (de_int) (dl_cons (de_int) (dl_nil)))) (dl_cons (de_tup (dl_cons (de_int) (dl_cons (de_int) (dl_nil)))) (dl_nil))))))))) (dl_nil)))))
    (dss_one (ds_set 5 hN (de_call (w__law_grid Z) (hr.mono (by decide)) (fun z => nomatch z) tk rfl Z.g__law_grid Z.ok__law_grid.kp (binds__law_grid Z) (dl_cons (de_var 1) (dl_cons (de_var 3) (dl_cons (de_var 4) (dl_nil))))))))) (dss_cons (ds_set 6 hN (de_op op_cat ops_cat (de_lst (dl_cons (de_int) (dl_nil))) (de_lc [("wire", 16)] rfl hN (di_range1 rfl Z.b_range (dl_cons (de_call (w__law_pick Z) (hr.mono (by decide)) (fun z => nomatch z) tk rfl Z.g__law_pick Z.ok__law_pick.kp (binds__law_pick Z) (dl_cons (de_var 1) (dl_cons (de_int) (dl_nil)))) (dl_nil))) (blkOk_by (by kernel_rfl)) (fun s H C cl fp => dg_name 16 hN (not_but (by decide))) (fun s H C cl fp => dts_nil) (fun s H C cl fp => de_call (w__law_of Z) (hr.mono (by decide)) (fun z => nomatch z) takes_w0 rfl Z.g__law_of Z.ok__law_of.kp (binds__law_of Z) (dl_cons (de_var 1) (dl_cons (de_lst (dl_cons (de_int) (dl_cons (de_int) (dl_cons (de_int) (dl_cons (de_int) (dl_nil)))))) (dl_nil)))))))
    (dss_one (ds_set 5 hN (de_call (w__law_summed Z) (hr.mono (by decide)) (fun z => nomatch z) tk rfl Z.g__law_summed Z.ok__law_summed.kp (binds__law_summed Z) (dl_cons (de_var 1) (dl_cons (de_call (w__law_pick Z) (hr.mono (by decide)) (fun z => nomatch z) tk rfl Z.g__law_pick Z.ok__law_pick.kp (binds__law_pick Z) (dl_cons (de_var 1) (dl_cons (de_int) (dl_nil)))) (dl_cons (de_call (w__law_of Z) (hr.mono (by decide)) (fun z => nomatch z) tk rfl Z.g__law_of Z.ok__law_of.kp (binds__law_of Z) (dl_cons (de_var 1) (dl_cons (de_lst (dl_cons (de_int) (dl_cons (de_int) (dl_cons (de_int) (dl_cons (de_int) (dl_cons (de_int) (dl_nil))))))) (dl_nil)))) (dl_cons (de_var 6) (dl_nil))))))))))
    (dss_cons (ds_par3 7 8 9 rfl hN (dl_cons (de_callB (call_reprP (hgd rfl) hr.u65) cs_repr rfl Z.b_repr boot_repr (dl_cons (de_var 5) (dl_nil))) (dl_cons (de_call (w__law_again Z) (hr.mono (by decide)) (fun z => nomatch z) tk rfl Z.g__law_again Z.ok__law_again.kp (binds__law_again Z) (dl_cons (de_var 5) (dl_nil))) (dl_cons (de_call (w__law_home Z) (hr.mono (by decide)) (fun z => nomatch z) tk rfl Z.g__law_home Z.ok__law_home.kp (binds__law_home Z) (dl_cons (de_var 5) (dl_nil))) (dl_nil)))))
    (dss_cons (ds_if (dt_cmp (op_neD hr.units) ops_ne (de_callB (call_reprP (hgd rfl) hr.u65) cs_repr rfl Z.b_repr boot_repr (dl_cons (de_lst (dl_cons (de_call (w_modes_again Z) (hr.mono (by decide)) (fun z => nomatch z) tk rfl Z.g_modes_again Z.ok_modes_again.kp (binds_modes_again Z) (dl_cons (de_var 5) (dl_nil))) (dl_cons (de_call (w_home_input Z) (hr.mono (by decide)) (fun z => nomatch z) tk rfl Z.g_home_input Z.ok_home_input.kp (binds_home_input Z) (dl_cons (de_var 5) (dl_nil))) (dl_nil)))) (dl_nil))) (de_callB (call_reprP (hgd rfl) hr.u65) cs_repr rfl Z.b_repr boot_repr (dl_cons (de_lst (dl_cons (de_var 8) (dl_cons (de_var 9) (dl_nil)))) (dl_nil)))) (dss_one (ds_ret (de_bl))) (dss_nil))
    (dss_cons (ds_set 10 hN (de_call (w__law_led Z) (hr.mono (by decide)) (fun z => nomatch z) tk rfl Z.g__law_led Z.ok__law_led.kp (binds__law_led Z) (dl_cons (de_var 5) (dl_cons (de_int) (dl_cons (de_var 9) (dl_nil))))))
    (dss_cons (ds_if (dt_w (dw_or (dt_cmp (op_neD hr.units) ops_ne (de_callB (call_reprP (hgd rfl) hr.u65) cs_repr rfl Z.b_repr boot_repr (dl_cons (de_call (w_home_mode Z) (hr.mono (by decide)) (fun z => nomatch z) tk rfl Z.g_home_mode Z.ok_home_mode.kp (binds_home_mode Z) (dl_cons (de_var 5) (dl_nil))) (dl_nil))) (de_callB (call_reprP (hgd rfl) hr.u65) cs_repr rfl Z.b_repr boot_repr (dl_cons (de_var 10) (dl_nil)))) (dw_or1 (dt_cmp (op_notInN hr.u65) (ops_inN true) (de_var 10) (de_var 8))))) (dss_one (ds_ret (de_bl))) (dss_nil))
    (dss_cons (ds_for (prot' := []) hp rfl (di_list (de_slL (de_call (w__law_modes Z) (hr.mono (by decide)) (fun z => nomatch z) tk rfl Z.g__law_modes Z.ok__law_modes.kp (binds__law_modes Z) (dl_cons (de_var 5) (dl_cons (de_int) (dl_nil)))) do_none (do_some (de_int)))) (dg_name 11 hN) (dss_cons (ds_set 12 hN (de_call (w__law_led Z) (hr.mono (by decide)) (fun z => nomatch z) tk rfl Z.g__law_led Z.ok__law_led.kp (binds__law_led Z) (dl_cons (de_var 5) (dl_cons (de_var 11) (dl_cons (de_var 9) (dl_nil))))))
    (dss_one (ds_if (dt_w (dw_or (dt_cmp (op_notInN hr.u65) (ops_inN true) (de_var 12) (de_var 8)) (dw_or1 (dt_cmp (op_neD hr.units) ops_ne (de_call (w__law_led Z) (hr.mono (by decide)) (fun z => nomatch z) tk rfl Z.g__law_led Z.ok__law_led.kp (binds__law_led Z) (dl_cons (de_var 5) (dl_cons (de_var 12) (dl_cons (de_var 9) (dl_nil))))) (de_var 12))))) (dss_one (ds_ret (de_bl))) (dss_nil)))))
    (dss_cons (ds_if (dt_w (dw_or (dt_not (dt_val (de_call (w__law_group_right Z) (hr.mono (by decide)) (fun z => nomatch z) tk rfl Z.g__law_group_right Z.ok__law_group_right.kp (binds__law_group_right Z) (dl_cons (de_var 5) (dl_cons (de_var 8) (dl_cons (de_var 10) (dl_nil))))))) (dw_or1 (dt_cmp (op_neD hr.units) ops_ne (de_callB (call_reprP (hgd rfl) hr.u65) cs_repr rfl Z.b_repr boot_repr (dl_cons (de_var 5) (dl_nil))) (de_var 7))))) (dss_one (ds_ret (de_bl))) (dss_nil))
    (dss_one (ds_if (dt_not (dt_val (de_call (w__law_never_right Z Y) (hr.mono (by decide)) hgd tk rfl Z.g__law_never_right Z.ok__law_never_right.kp (binds__law_never_right Z) (dl_cons (de_var 5) (dl_nil))))) (dss_one (ds_ret (de_bl))) (dss_nil)))))))))))
    (dss_cons (ds_asg (de_tup (dl_cons (de_tup (dl_cons (de_int) (dl_cons (de_int) (dl_cons (de_tup (dl_cons (de_tup (dl_cons (de_tup (dl_cons (de_int) (dl_cons (de_tup (dl_cons (de_int) (dl_nil))) (dl_nil)))) (dl_nil))) (dl_cons (de_tup (dl_cons (de_tup (dl_cons (de_int) (dl_cons (de_tup (dl_cons (de_int) (dl_nil))) (dl_nil)))) (dl_nil))) (dl_nil)))) (dl_nil))))) (dl_cons (de_tup (dl_cons (de_int) (dl_cons (de_int) (dl_cons (de_tup (dl_cons (de_tup (dl_cons (de_tup (dl_cons (de_int) (dl_cons (de_tup (dl_cons (de_int) (dl_nil))) (dl_nil)))) (dl_nil))) (dl_cons (de_tup (dl_cons (de_tup (dl_cons (de_int) (dl_cons (de_tup (dl_cons (de_int) (dl_nil))) (dl_nil)))) (dl_nil))) (dl_nil)))) (dl_nil))))) (dl_nil)))) (dg_tup rfl (dgs_cons (dg_name 13 hN) (dgs_cons (dg_name 14 hN) (dgs_nil)))))
    (dss_cons (ds_set 15 hN (de_lst (dl_cons (de_call (w_modes_again Z) (hr.mono (by decide)) (fun z => nomatch z) tk rfl Z.g_modes_again Z.ok_modes_again.kp (binds_modes_again Z) (dl_cons (de_var 13) (dl_nil))) (dl_cons (de_call (w_home_input Z) (hr.mono (by decide)) (fun z => nomatch z) tk rfl Z.g_home_input Z.ok_home_input.kp (binds_home_input Z) (dl_cons (de_var 13) (dl_nil))) (dl_cons (de_call (w_modes_again Z) (hr.mono (by decide)) (fun z => nomatch z) tk rfl Z.g_modes_again Z.ok_modes_again.kp (binds_modes_again Z) (dl_cons (de_var 14) (dl_nil))) (dl_cons (de_call (w_home_input Z) (hr.mono (by decide)) (fun z => nomatch z) tk rfl Z.g_home_input Z.ok_home_input.kp (binds_home_input Z) (dl_cons (de_var 14) (dl_nil))) (dl_cons (de_call (w_home_mode Z) (hr.mono (by decide)) (fun z => nomatch z) tk rfl Z.g_home_mode Z.ok_home_mode.kp (binds_home_mode Z) (dl_cons (de_var 14) (dl_nil))) (dl_nil))))))))
    (dss_one (ds_ret (de_cmp (op_eqD hr.units) ops_eq (de_callB (call_reprP (hgd rfl) hr.u65) cs_repr rfl Z.b_repr boot_repr (dl_cons (de_var 15) (dl_nil))) (de_callB (call_reprP (hgd rfl) hr.u65) cs_repr rfl Z.b_repr boot_repr (dl_cons (de_lst (dl_cons (de_tup (dl_cons (de_int) (dl_cons (de_int) (dl_nil)))) (dl_cons (de_tup (dl_cons (de_int) (dl_nil))) (dl_cons (de_tup (dl_cons (de_int) (dl_nil))) (dl_cons (de_tup (dl_cons (de_int) (dl_nil))) (dl_cons (de_int) (dl_nil))))))) (dl_nil)))))))))
end
end L47
end
section
set_option Elab.async false
set_option linter.all false
set_option maxRecDepth 100000
set_option maxHeartbeats 0
namespace L47
open PySem PySem.Spec PyProof.Rows L2 PD
/-! ### the head: facts by names, the run -/
def d_nothing : He.DefD := ⟨("nothing", none), "nothing", "nothing", defArgs s_nothing, defBody s_nothing, defScope s_nothing, [], []⟩
def d_added : He.DefD := ⟨("added", none), "added", "added", defArgs s_added, defBody s_added, defScope s_added, [], []⟩
def d_taken_off : He.DefD := ⟨("taken_off", none), "taken_off", "taken_off", defArgs s_taken_off, defBody s_taken_off, defScope s_taken_off, [], []⟩
def d_times : He.DefD := ⟨("times", none), "times", "times", defArgs s_times, defBody s_times, defScope s_times, [], []⟩
def d_modes_behind : He.DefD := ⟨("modes_behind", none), "modes_behind", "modes_behind", defArgs s_modes_behind, defBody s_modes_behind, defScope s_modes_behind, [], []⟩
def d_modes_come_to : He.DefD := ⟨("modes_come_to", none), "modes_come_to", "modes_come_to", defArgs s_modes_come_to, defBody s_modes_come_to, defScope s_modes_come_to, [], []⟩
def d_wire_line : He.DefD := ⟨("wire_line", none), "wire_line", "wire_line", defArgs s_wire_line, defBody s_wire_line, defScope s_wire_line, [], []⟩
def d_slope_at : He.DefD := ⟨("slope_at", none), "slope_at", "slope_at", defArgs s_slope_at, defBody s_slope_at, defScope s_slope_at, [], []⟩
def d_led_by : He.DefD := ⟨("led_by", none), "led_by", "led_by", defArgs s_led_by, defBody s_led_by, defScope s_led_by, [], []⟩
def d_led : He.DefD := ⟨("led", none), "led", "led", defArgs s_led, defBody s_led, defScope s_led, [], []⟩
def d_need_rest : He.DefD := ⟨("need_rest", none), "need_rest", "need_rest", defArgs s_need_rest, defBody s_need_rest, defScope s_need_rest, [], []⟩
def d_home_input : He.DefD := ⟨("home_input", none), "home_input", "home_input", defArgs s_home_input, defBody s_home_input, defScope s_home_input, [], []⟩
def d_home_mode : He.DefD := ⟨("home_mode", none), "home_mode", "home_mode", defArgs s_home_mode, defBody s_home_mode, defScope s_home_mode, [], []⟩
def d_modes_again : He.DefD := ⟨("modes_again", none), "modes_again", "modes_again", defArgs s_modes_again, defBody s_modes_again, defScope s_modes_again, [], []⟩
def d__law_source : He.DefD := ⟨("_law_source", none), "_law_source", "_law_source", defArgs s__law_source, defBody s__law_source, defScope s__law_source, [], []⟩
def d__law_pick : He.DefD := ⟨("_law_pick", none), "_law_pick", "_law_pick", defArgs s__law_pick, defBody s__law_pick, defScope s__law_pick, [], []⟩
def d__law_of : He.DefD := ⟨("_law_of", none), "_law_of", "_law_of", defArgs s__law_of, defBody s__law_of, defScope s__law_of, [], []⟩
def d__law_mixed : He.DefD := ⟨("_law_mixed", none), "_law_mixed", "_law_mixed", defArgs s__law_mixed, defBody s__law_mixed, defScope s__law_mixed, [], []⟩
def d__law_grid : He.DefD := ⟨("_law_grid", none), "_law_grid", "_law_grid", defArgs s__law_grid, defBody s__law_grid, defScope s__law_grid, [], []⟩
def d__law_summed : He.DefD := ⟨("_law_summed", none), "_law_summed", "_law_summed", defArgs s__law_summed, defBody s__law_summed, defScope s__law_summed, [], []⟩
def d__law_modes : He.DefD := ⟨("_law_modes", none), "_law_modes", "_law_modes", defArgs s__law_modes, defBody s__law_modes, defScope s__law_modes, [], []⟩
def d__law_again : He.DefD := ⟨("_law_again", none), "_law_again", "_law_again", defArgs s__law_again, defBody s__law_again, defScope s__law_again, [], []⟩
def d__law_line : He.DefD := ⟨("_law_line", none), "_law_line", "_law_line", defArgs s__law_line, defBody s__law_line, defScope s__law_line, [], []⟩
def d__law_home : He.DefD := ⟨("_law_home", none), "_law_home", "_law_home", defArgs s__law_home, defBody s__law_home, defScope s__law_home, [], []⟩
def d__law_led : He.DefD := ⟨("_law_led", none), "_law_led", "_law_led", defArgs s__law_led, defBody s__law_led, defScope s__law_led, [], []⟩
def d__law_heard : He.DefD := ⟨("_law_heard", none), "_law_heard", "_law_heard", defArgs s__law_heard, defBody s__law_heard, defScope s__law_heard, [], []⟩
def d__law_group_right : He.DefD := ⟨("_law_group_right", none), "_law_group_right", "_law_group_right", defArgs s__law_group_right, defBody s__law_group_right, defScope s__law_group_right, [], []⟩
def d__law_never_right : He.DefD := ⟨("_law_never_right", none), "_law_never_right", "_law_never_right", defArgs s__law_never_right, defBody s__law_never_right, defScope s__law_never_right, [], []⟩
def d_law : He.DefD := ⟨("law", none), "law", "law", defArgs s_law, defBody s_law, defScope s_law, [], []⟩
def fn : List He.DefD := [d_nothing, d_added, d_taken_off, d_times, d_modes_behind, d_modes_come_to, d_wire_line, d_slope_at, d_led_by, d_led, d_need_rest, d_home_input, d_home_mode, d_modes_again, d__law_source, d__law_pick, d__law_of, d__law_mixed, d__law_grid, d__law_summed, d__law_modes, d__law_again, d__law_line, d__law_home, d__law_led, d__law_heard, d__law_group_right, d__law_never_right, d_law]
def fa : List He.Fa := ([.glo "nothing", .glo "added", .glo "taken_off", .glo "times", .glo "modes_behind", .glo "modes_come_to", .glo "wire_line", .glo "slope_at", .glo "led_by", .glo "led", .glo "need_rest", .glo "home_input", .glo "home_mode", .glo "modes_again", .glo "_law_source", .glo "_law_pick", .glo "_law_of", .glo "_law_mixed", .glo "_law_grid", .glo "_law_summed", .glo "_law_modes", .glo "_law_again", .glo "_law_line", .glo "_law_home", .glo "_law_led", .glo "_law_heard", .glo "_law_group_right", .glo "_law_never_right", .glo "law", .free "abs"] : List He.Fa) ++ ([.free "dict", .free "enumerate", .free "int", .free "len", .free "list", .free "max", .free "range", .free "repr", .free "sorted", .free "tuple", .free "zip", .glo "NotOfIt", .exc "NotOfIt", .exm "NotOfIt" "NotOfIt" true] : List He.Fa)
def tf : List He.Defn := [("_law_never_right", none)]
abbrev R : PySem.W.OpenRow := PySem.W.OpenLaw.row PySem.Challenge.rw_anysequence_k47_modes_that_come_again
def loose : List Str := ((["__name__", "TokenError", "NotOfIt", "nothing", "added", "taken_off", "times", "modes_behind", "modes_come_to", "wire_line", "slope_at", "led_by", "led", "need_rest", "home_input", "home_mode", "modes_again", "_law_source", "_law_pick", "_law_of", "_law_mixed", "_law_grid", "_law_summed", "_law_modes", "_law_again", "_law_line", "_law_home", "_law_led", "_law_heard", "_law_group_right"] : List Str) ++ (["_law_never_right"] : List Str))
abbrev hk : PySem.W.Hook := He.hookX 4 fa fn [] tf fun _ => true
def ob (s : PySem.W.SharedT) : He.AlX := He.obsX 4 fa fn [] tf (fun _ => true) (HandSHeadRun.getT s)
theorem ob_eq (s : PySem.W.SharedT) : ob s = hk.obs s.abs := He.obsX_eq (HandSHeadRun.getT_eq s)
theorem run (w : World) : HandSHeadRun.RunEq R (PySem.W.view R.prog [36]) hk ob 3000 loose w := by
  intro os
  kernel_rfl
theorem fxOf {K : PySem.W.Frag} {h : Heap} {mg : Str → Option Value} (X : K.In h) (G : h.Ns mainGlobals mg) (c : He.SaysD fa fn K) : ∃ Z : Fx K mg, (∀ j, Z.fA j = He.ga K ((["nothing", "added", "taken_off", "times", "modes_behind", "modes_come_to", "wire_line", "slope_at", "led_by", "led", "need_rest", "home_input", "home_mode", "modes_again", "_law_source", "_law_pick", "_law_of", "_law_mixed", "_law_grid", "_law_summed", "_law_modes", "_law_again", "_law_line", "_law_home", "_law_led", "_law_heard", "_law_group_right", "_law_never_right", "law"] : List Str).getD j ""))
    ∧ Z.C = He.ga K "NotOfIt"
    ∧ (Z.tC__law_never_right, Z.tP__law_never_right) = He.cT K ("_law_never_right", none)
    := by
  have gl : ∀ {x : Str}, He.Fa.glo x ∈ fa → mg x = some (.ref (He.ga K x)) := fun hm => He.glo_ok X G (c.facts hm)
  have fr : ∀ {x : Str}, He.Fa.free x ∈ fa → mg x = none := fun hm => He.free_ok X G (c.facts hm)
  obtain ⟨fd0, F0⟩ := c.def_ 0 (d := d_nothing) rfl
  obtain ⟨fd1, F1⟩ := c.def_ 1 (d := d_added) rfl
  obtain ⟨fd2, F2⟩ := c.def_ 2 (d := d_taken_off) rfl
  obtain ⟨fd3, F3⟩ := c.def_ 3 (d := d_times) rfl
  obtain ⟨fd4, F4⟩ := c.def_ 4 (d := d_modes_behind) rfl
  obtain ⟨fd5, F5⟩ := c.def_ 5 (d := d_modes_come_to) rfl
  obtain ⟨fd6, F6⟩ := c.def_ 6 (d := d_wire_line) rfl
  obtain ⟨fd7, F7⟩ := c.def_ 7 (d := d_slope_at) rfl
  obtain ⟨fd8, F8⟩ := c.def_ 8 (d := d_led_by) rfl
  obtain ⟨fd9, F9⟩ := c.def_ 9 (d := d_led) rfl
  obtain ⟨fd10, F10⟩ := c.def_ 10 (d := d_need_rest) rfl
  obtain ⟨fd11, F11⟩ := c.def_ 11 (d := d_home_input) rfl
  obtain ⟨fd12, F12⟩ := c.def_ 12 (d := d_home_mode) rfl
  obtain ⟨fd13, F13⟩ := c.def_ 13 (d := d_modes_again) rfl
  obtain ⟨fd14, F14⟩ := c.def_ 14 (d := d__law_source) rfl
  obtain ⟨fd15, F15⟩ := c.def_ 15 (d := d__law_pick) rfl
  obtain ⟨fd16, F16⟩ := c.def_ 16 (d := d__law_of) rfl
  obtain ⟨fd17, F17⟩ := c.def_ 17 (d := d__law_mixed) rfl
  obtain ⟨fd18, F18⟩ := c.def_ 18 (d := d__law_grid) rfl
  obtain ⟨fd19, F19⟩ := c.def_ 19 (d := d__law_summed) rfl
  obtain ⟨fd20, F20⟩ := c.def_ 20 (d := d__law_modes) rfl
  obtain ⟨fd21, F21⟩ := c.def_ 21 (d := d__law_again) rfl
  obtain ⟨fd22, F22⟩ := c.def_ 22 (d := d__law_line) rfl
  obtain ⟨fd23, F23⟩ := c.def_ 23 (d := d__law_home) rfl
  obtain ⟨fd24, F24⟩ := c.def_ 24 (d := d__law_led) rfl
  obtain ⟨fd25, F25⟩ := c.def_ 25 (d := d__law_heard) rfl
  obtain ⟨fd26, F26⟩ := c.def_ 26 (d := d__law_group_right) rfl
  obtain ⟨fd27, F27⟩ := c.def_ 27 (d := d__law_never_right) rfl
  obtain ⟨fd28, F28⟩ := c.def_ 28 (d := d_law) rfl
  have ex_NotOfIt := He.exc_ok (c.facts (f := .exc "NotOfIt") (by simp [fa]))
  have em_NotOfIt := He.exm_ok (c.facts (f := .exm "NotOfIt" "NotOfIt" true) (by simp [fa]))
  have co__law_never_right : fd27.code = .ref (He.codeOf K ("_law_never_right", none)) := by
    obtain ⟨oc, od, dV, kV, doc, pm, an, cdv, ct, osl, e1, lk, hcd, _, _⟩ := F27.ex
    obtain ⟨c0, e0⟩ := He.codeIn_ref hcd
    have e2 : fd27.code = .ref c0 := by rw [e1]; exact e0
    rw [e2, He.codeOf_eq (p := ("_law_never_right", none)) lk e2]
  refine ⟨{ fA := fun j => He.ga K ((["nothing", "added", "taken_off", "times", "modes_behind", "modes_come_to", "wire_line", "slope_at", "led_by", "led", "need_rest", "home_input", "home_mode", "modes_again", "_law_source", "_law_pick", "_law_of", "_law_mixed", "_law_grid", "_law_summed", "_law_modes", "_law_again", "_law_line", "_law_home", "_law_led", "_law_heard", "_law_group_right", "_law_never_right", "law"] : List Str).getD j ""), fD := fun j => [fd0, fd1, fd2, fd3, fd4, fd5, fd6, fd7, fd8, fd9, fd10, fd11, fd12, fd13, fd14, fd15, fd16, fd17, fd18, fd19, fd20, fd21, fd22, fd23, fd24, fd25, fd26, fd27, fd28].getD j fd0
            ok_nothing := F0, g_nothing := gl (by simp [fa])
            ok_added := F1, g_added := gl (by simp [fa])
            ok_taken_off := F2, g_taken_off := gl (by simp [fa])
            ok_times := F3, g_times := gl (by simp [fa])
            ok_modes_behind := F4, g_modes_behind := gl (by simp [fa])
            ok_modes_come_to := F5, g_modes_come_to := gl (by simp [fa])
            ok_wire_line := F6, g_wire_line := gl (by simp [fa])
            ok_slope_at := F7, g_slope_at := gl (by simp [fa])
            ok_led_by := F8, g_led_by := gl (by simp [fa])
            ok_led := F9, g_led := gl (by simp [fa])
            ok_need_rest := F10, g_need_rest := gl (by simp [fa])
            ok_home_input := F11, g_home_input := gl (by simp [fa])
            ok_home_mode := F12, g_home_mode := gl (by simp [fa])
            ok_modes_again := F13, g_modes_again := gl (by simp [fa])
            ok__law_source := F14, g__law_source := gl (by simp [fa])
            ok__law_pick := F15, g__law_pick := gl (by simp [fa])
            ok__law_of := F16, g__law_of := gl (by simp [fa])
            ok__law_mixed := F17, g__law_mixed := gl (by simp [fa])
            ok__law_grid := F18, g__law_grid := gl (by simp [fa])
            ok__law_summed := F19, g__law_summed := gl (by simp [fa])
            ok__law_modes := F20, g__law_modes := gl (by simp [fa])
            ok__law_again := F21, g__law_again := gl (by simp [fa])
            ok__law_line := F22, g__law_line := gl (by simp [fa])
            ok__law_home := F23, g__law_home := gl (by simp [fa])
            ok__law_led := F24, g__law_led := gl (by simp [fa])
            ok__law_heard := F25, g__law_heard := gl (by simp [fa])
            ok__law_group_right := F26, g__law_group_right := gl (by simp [fa])
            ok__law_never_right := F27, g__law_never_right := gl (by simp [fa])
            ok_law := F28, g_law := gl (by simp [fa])
            b_abs := fr (by simp [fa])
            b_dict := fr (by simp [fa])
            b_enumerate := fr (by simp [fa])
            b_int := fr (by simp [fa])
            b_len := fr (by simp [fa])
            b_list := fr (by simp [fa])
            b_max := fr (by simp [fa])
            b_range := fr (by simp [fa])
            b_repr := fr (by simp [fa])
            b_sorted := fr (by simp [fa])
            b_tuple := fr (by simp [fa])
            b_zip := fr (by simp [fa])
            C := He.ga K "NotOfIt"
            x_NotOfIt := ⟨ex_NotOfIt.1, gl (by simp [fa]), ex_NotOfIt.2.1, ex_NotOfIt.2.2.1, ex_NotOfIt.2.2.2⟩, m_NotOfIt := em_NotOfIt
            tC__law_never_right := He.codeOf K ("_law_never_right", none), tP__law_never_right := He.tabOf K (He.codeOf K ("_law_never_right", none)), co__law_never_right := co__law_never_right
            }, fun _ => rfl, rfl, rfl⟩
open PySem PySem.W PySem.Calls PyProof.Rows
/-- the law holds, if what its text does to trees answers True -/
theorem fin (pure : ∀ (c : Value) (ns : List Int), ns.length ≤ 63 → (∀ z ∈ ns, Builtin.Int.intBits z ≤ 1048576) → ∃ post, p_law c [.fls (ns.map D.int)] = some (.ok (.bl true) post)) : PySem.Challenge.rw_anysequence_k47_modes_that_come_again.Holds := by
  w_on; o_law
  refine HandSHeadRun.head_any (r := OpenLaw.row PySem.Challenge.rw_anysequence_k47_modes_that_come_again) (q := view (OpenLaw.row PySem.Challenge.rw_anysequence_k47_modes_that_come_again).prog [36]) (H := hk) (ob := ob) (M := 3000) (loose := loose) (d := HandSHeadRun.topDef (OpenLaw.row PySem.Challenge.rw_anysequence_k47_modes_that_come_again).prog 36) (kwd := []) ob_eq
    (by kernel_rfl) (fun s => by kernel_rfl) run (by kernel_rfl) (by kernel_rfl) (by kernel_rfl) (by rfl) (by first | assumption | decide +kernel) (by decide +kernel) ⟨rfl, rfl, rfl, rfl, rfl, by decide +kernel⟩ ?hw ?hc
  case hw => w_witness2
  case hc =>
    refine PD.walkG (l := PySem.Challenge.rw_anysequence_k47_modes_that_come_again) (n := 63) (k := 11) (x := "script") rfl (by decide) (by kernel_rfl) ⟨rfl, by decide, by decide⟩ ?_
    intro w mg fa0 h Y0 G hmg0
    obtain ⟨K, KX, c⟩ := Y0
    have hmg : mg ("law" : PySem.Str) = some (.ref fa0) := by
      have e : (HandSHeadRun.topDef (OpenLaw.row PySem.Challenge.rw_anysequence_k47_modes_that_come_again).prog 36).name = ("law" : PySem.Str) := by kernel_rfl
      rw [← e]
      exact hmg0
    obtain ⟨Z, zA, zC, z0⟩ := fxOf KX G c.t.d
    have ef : fa0 = Z.fA 28 := by
      have := hmg.symm.trans Z.g_law
      cases this; rfl
    subst ef
    letI : Tbs := ⟨[(Z.tP__law_never_right, lamQ (("_law_never_right" : PySem.Str) ++ ".<locals>."))]⟩
    refine ⟨K, Z.fD 28, [(Z.tC__law_never_right, Z.tP__law_never_right)], spD K (p_law (.ref Z.C)), KX, ?_, ?_, ?_, fun s u => ?_, fun H a ns hl hz hT hS => ?_, fun base _ _ tb => ?_⟩
    · intro p hp
      simp only [List.mem_cons, List.not_mem_nil, or_false] at hp
      subst hp
      rw [z0]; exact c.empty ("_law_never_right", none) (by simp [tf])
    · intro p hp
      simp only [List.mem_cons, List.not_mem_nil, or_false] at hp
      subst hp
      rw [z0]; exact c.out ("_law_never_right", none) (by simp [tf])
    · intro p hp
      simp only [List.mem_cons, List.not_mem_nil, or_false] at hp
      subst hp
      rw [z0]; exact PySem.W.codeHd_of_K KX (c.hd ("_law_never_right", none) (by simp [tf]))
    · exact FunD.bindsA (ps := ["script"]) Z.ok_law (fun _ _ _ _ _ _ us hl => match us, hl with | [_], _ => rfl) s [u] rfl
    · obtain ⟨post, hp⟩ := pure (.ref Z.C) ns hl hz
      refine ⟨_, fun _ => False, _, .cons (F1 := fun _ => False) (F2 := fun _ => False) (.fls hS (by rw [List.length_map]; exact Nat.le_trans hl (by decide)) (rep_ints ns) fun _ z => z) (.nil fun _ z => z) (fun _ z => z.elim) (fun x => by simp), ?_, hp, fun v H' F' Fd _ r _ _ => r.bl_inv⟩
      intro p hp
      have hp : p ∈ [(Z.tP__law_never_right, lamQ (("_law_never_right" : PySem.Str) ++ ".<locals>."))] := hp
      simp only [List.mem_cons, List.not_mem_nil, or_false] at hp
      subst hp
      exact LamX.TabS.nil (hT (Z.tC__law_never_right, Z.tP__law_never_right) (by simp))
    · exact w_law Z (Lx.mk trivial (tb (Z.tC__law_never_right, Z.tP__law_never_right) (by simp)) (by show _ ∈ [(Z.tP__law_never_right, lamQ (("_law_never_right" : PySem.Str) ++ ".<locals>."))]; simp) (fun p hp _ => by have hp : p ∈ [(Z.tP__law_never_right, lamQ (("_law_never_right" : PySem.Str) ++ ".<locals>."))] := hp; simp only [List.mem_cons, List.not_mem_nil, or_false] at hp; subst hp; rfl))
end L47
end
section
set_option autoImplicit false
/-! Commuting maps of finitely many modes: what comes again. -/
namespace CM
def it (f : Nat → Nat) : Nat → Nat → Nat
  | 0, m => m
  | i + 1, m => f (it f i m)
theorem it_add (f : Nat → Nat) (i j m : Nat) : it f (i + j) m = it f i (it f j m) := by
  induction i with
  | zero => rw [Nat.zero_add]; rfl
  | succ i ih => rw [Nat.succ_add, it, ih, it]
theorem it_lt {f : Nat → Nat} {n m : Nat} (hf : ∀ x, x < n → f x < n) (hm : m < n) : ∀ i, it f i m < n
  | 0 => hm
  | i + 1 => hf _ (it_lt hf hm i)
/-- the line from m: L modes, apart; then that of place t again -/
structure Line (f : Nat → Nat) (m L t : Nat) : Prop where
  ht : t < L
  apart : ∀ i j, i < j → j < L → it f i m ≠ it f j m
  back : it f L m = it f t m
/-- led on by a vector, from wire w on -/
def ledF (f : Nat → Nat → Nat) : List Nat → Nat → Nat → Nat
  | [], _, m => m
  | a :: r, w, m => ledF f r (w + 1) (it (f w) a m)
/-- some tokens lead from a to b -/
inductive Rc (ins : Nat) (f : Nat → Nat → Nat) : Nat → Nat → Prop
  | refl (m : Nat) : Rc ins f m m
  | tail {a b w : Nat} (h : Rc ins f a b) (hw : w < ins) : Rc ins f a (f w b)
theorem Rc.trans {ins : Nat} {f : Nat → Nat → Nat} {a b c : Nat} (h : Rc ins f a b) (k : Rc ins f b c) : Rc ins f a c := by
  induction k with
  | refl => exact h
  | tail _ hw ih => exact .tail ih hw
theorem Rc.it {ins : Nat} {f : Nat → Nat → Nat} {a w : Nat} (hw : w < ins) : ∀ k, Rc ins f a (it (f w) k a)
  | 0 => .refl a
  | k + 1 => .tail (Rc.it hw k) hw
theorem Rc.led {ins : Nat} {f : Nat → Nat → Nat} : ∀ (v : List Nat) (w m : Nat), w + v.length ≤ ins → Rc ins f m (ledF f v w m)
  | [], _, m, _ => .refl m
  | a :: r, w, m, h => (Rc.it (by simp at h; omega) a).trans (Rc.led r (w + 1) _ (by simp at h; omega))
/-- n modes, ins maps that commute, all modes come to from 0 -/
structure Net (n ins : Nat) (f : Nat → Nat → Nat) : Prop where
  pos : 0 < n
  lt : ∀ w m, w < ins → m < n → f w m < n
  comm : ∀ v w m, v < ins → w < ins → m < n → f v (f w m) = f w (f v m)
  all : ∀ m, m < n → Rc ins f 0 m
variable {n ins : Nat} {f : Nat → Nat → Nat}
/-- a map that commutes with all -/
structure Cm (n ins : Nat) (f : Nat → Nat → Nat) (g : Nat → Nat) : Prop where
  lt : ∀ m, m < n → g m < n
  comm : ∀ w m, w < ins → m < n → g (f w m) = f w (g m)
theorem Cm.comp {g h : Nat → Nat} (a : Cm n ins f g) (b : Cm n ins f h) : Cm n ins f fun m => g (h m) :=
  ⟨fun m hm => a.lt _ (b.lt _ hm), fun w m hw hm => by simp only [b.comm w m hw hm, a.comm w _ hw (b.lt m hm)]⟩
theorem Cm.id : Cm n ins f fun m => m := ⟨fun _ h => h, fun _ _ _ _ => rfl⟩
theorem Net.rc_lt (N : Net n ins f) {a b : Nat} (ha : a < n) (h : Rc ins f a b) : b < n := by
  induction h with
  | refl => exact ha
  | tail _ hw ih => exact N.lt _ _ hw ih
theorem Cm.rc {g : Nat → Nat} (N : Net n ins f) (a : Cm n ins f g) {x y : Nat} (hx : x < n) (h : Rc ins f x y) : Rc ins f (g x) (g y) := by
  induction h with
  | refl => exact .refl _
  | tail h hw ih => rw [a.comm _ _ hw (N.rc_lt hx h)]; exact .tail ih hw
/-- such maps are told by what they do to 0 -/
theorem Cm.ext {g h : Nat → Nat} (N : Net n ins f) (a : Cm n ins f g) (b : Cm n ins f h) (e : g 0 = h 0) : ∀ m, m < n → g m = h m := by
  intro m hm
  have h := N.all m hm
  clear hm
  induction h with
  | refl => exact e
  | tail k hw ih =>
    have := N.rc_lt N.pos k
    rw [a.comm _ _ hw this, b.comm _ _ hw this, ih]
theorem Cm.wire (N : Net n ins f) {w : Nat} (hw : w < ins) : Cm n ins f (f w) := ⟨fun m h => N.lt w m hw h, fun v m hv hm => N.comm w v m hw hv hm⟩
theorem Cm.it (N : Net n ins f) {g : Nat → Nat} (a : Cm n ins f g) : ∀ k, Cm n ins f (CM.it g k)
  | 0 => Cm.id
  | k + 1 => a.comp (Cm.it N a k)
theorem Cm.led (N : Net n ins f) : ∀ (v : List Nat) (w : Nat), w + v.length ≤ ins → Cm n ins f (ledF f v w)
  | [], _, _ => Cm.id
  | a :: r, w, h => (Cm.led N r (w + 1) (by simp at h; omega)).comp (Cm.it N (Cm.wire N (w := w) (by simp at h; omega)) a)
/-- for each mode one such map leads 0 there -/
theorem Net.map (N : Net n ins f) {m : Nat} (h : Rc ins f 0 m) : ∃ g, Cm n ins f g ∧ g 0 = m ∧ ∀ x, x < n → Rc ins f x (g x) := by
  induction h with
  | refl => exact ⟨_, Cm.id, rfl, fun x _ => .refl x⟩
  | tail h hw ih =>
    obtain ⟨g, a, e, r⟩ := ih
    exact ⟨_, (Cm.wire N hw).comp a, by simp only [e], fun x hx => .tail (r x hx) hw⟩
theorem Cm.swap (N : Net n ins f) {g h : Nat → Nat} (a : Cm n ins f g) (b : Cm n ins f h) : ∀ m, m < n → g (h m) = h (g m) := by
  obtain ⟨k, c, e, -⟩ := N.map (N.all _ (a.lt 0 N.pos))
  -- k 0 = g 0, so k is g
  have ek := Cm.ext N c a (by rw [e])
  have key : ∀ x, Rc ins f 0 x → h (g x) = g (h x) := by
    -- it is enough at 0
    have e0 : h (g 0) = g (h 0) := by
      have : ∀ y, Rc ins f 0 y → h y = (fun z => z) (h y) := fun _ _ => rfl
      have h1 : ∀ y, Rc ins f 0 y → y < n → ∃ g', Cm n ins f g' ∧ g' 0 = y ∧ h y = g' (h 0) := by
        intro y hy
        induction hy with
        | refl => exact fun _ => ⟨_, Cm.id, rfl, rfl⟩
        | tail hb hw ih =>
          intro _
          have hb' := N.rc_lt N.pos hb
          obtain ⟨g', a', e1, e2⟩ := ih hb'
          exact ⟨_, (Cm.wire N hw).comp a', by simp only [e1], by rw [b.comm _ _ hw hb', e2]⟩
      obtain ⟨g', a', e1, e2⟩ := h1 (g 0) (N.all _ (a.lt 0 N.pos)) (a.lt 0 N.pos)
      rw [e2]
      exact Cm.ext N a' a e1 _ (b.lt 0 N.pos)
    intro x hx
    exact Cm.ext N (b.comp a) (a.comp b) e0 x (N.rc_lt N.pos hx)
  intro m hm
  exact (key m (N.all m hm)).symm
theorem ledF_add (N : Net n ins f) : ∀ (u v : List Nat) (w m : Nat), u.length = v.length → w + u.length ≤ ins → m < n → ledF f (List.zipWith (· + ·) u v) w m = ledF f u w (ledF f v w m)
  | [], [], _, _, _, _, _ => rfl
  | a :: u, b :: v, w, m, hl, h, hm => by
    simp only [List.length_cons] at h hl
    have hw : w < ins := by omega
    have ca := Cm.it N (Cm.wire N hw) a
    have cb := Cm.it N (Cm.wire N hw) b
    have cv := Cm.led N v (w + 1) (by omega)
    simp only [List.zipWith_cons_cons, ledF]
    rw [ledF_add N u v (w + 1) _ (by omega) (by omega) (it_lt (fun x hx => N.lt w x hw hx) hm _), it_add]
    rw [Cm.swap N cv ca _ (cb.lt _ hm)]
/-! ### home -/
/-- h is a home input: behind it each wire has a period -/
structure Home (n ins : Nat) (f : Nat → Nat → Nat) (h p : List Nat) : Prop where
  hl : h.length = ins
  pl : p.length = ins
  pp : ∀ (w x : Nat), p[w]? = some x → 0 < x
  dvd : ∀ (w x y : Nat), h[w]? = some x → p[w]? = some y → y ∣ x
  back : ∀ (w x y : Nat), h[w]? = some x → p[w]? = some y → ∀ m, m < n → it (f w) (x + y) m = it (f w) x m
variable {h p : List Nat}
theorem Line.all (N : Net n ins f) {w L t : Nat} (hw : w < ins) (l : Line (f w) 0 L t) : ∀ m, m < n → it (f w) L m = it (f w) t m :=
  Cm.ext N (Cm.it N (Cm.wire N hw) L) (Cm.it N (Cm.wire N hw) t) l.back
theorem Line.back' (N : Net n ins f) {w L t : Nat} (hw : w < ins) (l : Line (f w) 0 L t) {x : Nat} (hx : t ≤ x) : ∀ m, m < n → it (f w) (x + (L - t)) m = it (f w) x m := by
  intro m hm
  have := l.ht
  have e : x + (L - t) = (x - t) + L := by omega
  have e2 : x = (x - t) + t := by omega
  rw [e, it_add, l.all N hw m hm, ← it_add, ← e2]
theorem Home.at_ (H : Home n ins f h p) {w : Nat} (hw : w < ins) : ∃ x y, h[w]? = some x ∧ p[w]? = some y := by
  have a := H.hl; have b := H.pl
  exact ⟨_, _, List.getElem?_eq_getElem (by omega), List.getElem?_eq_getElem (by omega)⟩
theorem Home.backs (H : Home n ins f h p) {w x y : Nat} (hx : h[w]? = some x) (hy : p[w]? = some y) : ∀ k m, m < n → (∀ m, m < n → f w m < n) → it (f w) (x + k * y) m = it (f w) x m := by
  intro k
  induction k with
  | zero => intro m _ _; simp
  | succ k ih =>
    intro m hm hf
    have e : x + (k + 1) * y = (k * y) + (x + y) := by rw [Nat.succ_mul]; omega
    have e2 : x + k * y = k * y + x := by omega
    have h2 := ih m hm hf
    rw [e2, it_add] at h2
    rw [e, it_add, H.back w x y hx hy m hm, h2]
/-- the home input led twice does no more than once, from any wire on -/
theorem Home.idem0 (N : Net n ins f) (H : Home n ins f h p) : ∀ (v : List Nat) (w : Nat), (∀ i x, v[i]? = some x → h[w + i]? = some x) → w + v.length ≤ ins → ∀ m, m < n → ledF f v w (ledF f v w m) = ledF f v w m
  | [], _, _, _, _, _ => rfl
  | a :: r, w, hv, hl, m, hm => by
    simp only [List.length_cons] at hl
    have hw : w < ins := by omega
    obtain ⟨x, y, hx, hy⟩ := H.at_ hw
    have ha : x = a := by
      have := hv 0 a (by simp)
      rw [Nat.add_zero, hx] at this
      exact Option.some.inj this
    subst ha
    have ca := Cm.it N (Cm.wire N hw) x
    have cr := Cm.led N r (w + 1) (by omega)
    simp only [ledF]
    rw [← Cm.swap N cr ca _ (ca.lt _ hm), Home.idem0 N H r (w + 1) (fun i z hz => by
      have := hv (i + 1) z (by simpa using hz)
      rwa [show w + 1 + i = w + (i + 1) by omega]) (by omega) _ (ca.lt _ (ca.lt _ hm))]
    congr 1
    rw [← it_add]
    obtain ⟨k, rfl⟩ := H.dvd w x y hx hy
    have := H.backs hx hy k m hm fun z hz => N.lt w z hw hz
    rwa [Nat.mul_comm k y] at this
theorem Home.idem (N : Net n ins f) (H : Home n ins f h p) {m : Nat} (hm : m < n) : ledF f h 0 (ledF f h 0 m) = ledF f h 0 m :=
  H.idem0 N h 0 (fun i x hx => by rwa [Nat.zero_add]) (by rw [H.hl]; omega) m hm
/-- a period more of a wire does nothing more -/
theorem Home.more0 (N : Net n ins f) (H : Home n ins f h p) {w y : Nat} (hy : p[w]? = some y) (hw : w < ins) : ∀ (v : List Nat) (u : Nat), (∀ i x, v[i]? = some x → h[u + i]? = some x) → u ≤ w → w < u + v.length → u + v.length ≤ ins → ∀ m, m < n → ledF f v u (it (f w) y m) = ledF f v u m
  | [], _, _, _, h2, _, _, _ => by simp at h2; omega
  | a :: r, u, hv, h1, h2, hl, m, hm => by
    simp only [List.length_cons] at hl h2
    have hu : u < ins := by omega
    have ca := Cm.it N (Cm.wire N hu) a
    have cw := Cm.it N (Cm.wire N hw) y
    simp only [ledF]
    by_cases e : u = w
    · subst e
      have ha : h[u]? = some a := by simpa using hv 0 a (by simp)
      rw [← it_add, H.back u a y ha hy m hm]
    · rw [Cm.swap N ca cw m hm]
      exact Home.more0 N H hy hw r (u + 1) (fun i z hz => by
        have := hv (i + 1) z (by simpa using hz)
        rwa [show u + 1 + i = u + (i + 1) by omega]) (by omega) (by omega) (by omega) _ (ca.lt _ hm)
theorem Home.more (N : Net n ins f) (H : Home n ins f h p) {w y : Nat} (hy : p[w]? = some y) (hw : w < ins) {m : Nat} (hm : m < n) : it (f w) y (ledF f h 0 m) = ledF f h 0 m := by
  rw [Cm.swap N (Cm.it N (Cm.wire N hw) y) (Cm.led N h 0 (by rw [H.hl]; omega)) m hm]
  exact H.more0 N hy hw h 0 (fun i x hx => by rwa [Nat.zero_add]) (by omega) (by rw [H.hl]; omega) (by rw [H.hl]; omega) m hm
/-- the modes that come again -/
def Again (n ins : Nat) (f : Nat → Nat → Nat) (m : Nat) : Prop := m < n ∧ ∀ b, Rc ins f m b → Rc ins f b m
/-- .. are those that home leaves -/
theorem Home.fix (N : Net n ins f) (H : Home n ins f h p) {m : Nat} (a : Again n ins f m) : ledF f h 0 m = m := by
  have c := Cm.led N h 0 (by rw [H.hl]; omega)
  have r := a.2 _ (Rc.led h 0 m (by rw [H.hl]; omega))
  obtain ⟨g, cg, e, -⟩ := N.map (N.all _ a.1)
  -- from F m back to m
  have : ∀ b, Rc ins f (ledF f h 0 m) b → ledF f h 0 b = b := by
    intro b hb
    induction hb with
    | refl => exact H.idem N a.1
    | tail hb hw ih => rw [c.comm _ _ hw (N.rc_lt (c.lt _ a.1) hb), ih]
  exact this m r
theorem Home.undo (N : Net n ins f) (H : Home n ins f h p) {w m : Nat} (hw : w < ins) (hm : m < n) (e : ledF f h 0 m = m) : ∃ k, it (f w) k (f w m) = m := by
  obtain ⟨x, y, hx, hy⟩ := H.at_ hw
  have h1 := H.more N hy hw hm
  rw [e] at h1
  have := H.pp w y hy
  refine ⟨y - 1, ?_⟩
  have e2 : it (f w) 1 m = f w m := rfl
  rw [← e2, ← it_add, show y - 1 + 1 = y by omega, h1]
theorem Home.back_rc (N : Net n ins f) (H : Home n ins f h p) {m : Nat} (hm : m < n) (e : ledF f h 0 m = m) {b : Nat} (r : Rc ins f m b) : Rc ins f b m ∧ ledF f h 0 b = b := by
  have c := Cm.led N h 0 (by rw [H.hl]; omega)
  induction r with
  | refl => exact ⟨.refl _, e⟩
  | @tail b w r hw ih =>
    have hb := N.rc_lt hm r
    obtain ⟨k, hk⟩ := H.undo N hw hb ih.2
    refine ⟨?_, by rw [c.comm _ _ hw hb, ih.2]⟩
    have := Rc.it (a := f w b) (f := f) hw k
    rw [hk] at this
    exact this.trans ih.1
theorem Home.again (N : Net n ins f) (H : Home n ins f h p) {m : Nat} (hm : m < n) : Again n ins f m ↔ ledF f h 0 m = m :=
  ⟨fun a => H.fix N a, fun e => ⟨hm, fun _ r => (H.back_rc N hm e r).1⟩⟩
/-- .. are those come to from the home mode -/
theorem Home.from_ (N : Net n ins f) (H : Home n ins f h p) {m : Nat} (hm : m < n) : Again n ins f m ↔ Rc ins f (ledF f h 0 0) m := by
  have c := Cm.led N h 0 (by rw [H.hl]; omega)
  constructor
  · intro a
    have := c.rc N N.pos (N.all m hm)
    rwa [H.fix N a] at this
  · intro r
    exact (H.again N hm).mpr (H.back_rc N (c.lt _ N.pos) (H.idem N N.pos) r).2
theorem Home.inj (N : Net n ins f) (H : Home n ins f h p) {w a b : Nat} (hw : w < ins) (ha : Again n ins f a) (hb : Again n ins f b) (e : f w a = f w b) : a = b := by
  obtain ⟨x, y, hx, hy⟩ := H.at_ hw
  have h1 := H.more N hy hw ha.1
  have h2 := H.more N hy hw hb.1
  rw [H.fix N ha] at h1
  rw [H.fix N hb] at h2
  have := H.pp w y hy
  have k : ∀ m, it (f w) y m = it (f w) (y - 1) (f w m) := fun m => by
    have e2 : it (f w) 1 m = f w m := rfl
    rw [← e2, ← it_add, show y - 1 + 1 = y by omega]
  rw [← h1, ← h2, k a, k b, e]
theorem Home.step (N : Net n ins f) (H : Home n ins f h p) {w a : Nat} (hw : w < ins) (ha : Again n ins f a) : Again n ins f (f w a) := by
  have c := Cm.led N h 0 (by rw [H.hl]; omega)
  rw [H.again N (N.lt w a hw ha.1), c.comm w a hw ha.1, H.fix N ha]
end CM
end
section
set_option autoImplicit false
/-! The grid of counters. -/
namespace CM
/-- a counter's next: many, back -/
def nxc (s : Nat × Nat) (k : Nat) : Nat := if k + 1 < s.1 + s.2 then k + 1 else s.1
theorem nxc_lt {s : Nat × Nat} (h : 0 < s.2) {k : Nat} (hk : k < s.1 + s.2) : nxc s k < s.1 + s.2 := by
  unfold nxc; split <;> omega
/-- a cell of the grid -/
def IsCell (sz : List (Nat × Nat)) (c : List Nat) : Prop := c.length = sz.length ∧ ∀ (w : Nat) (s : Nat × Nat) (x : Nat), sz[w]? = some s → c[w]? = some x → x < s.1 + s.2
/-- all cells, as they are made -/
def cellsN (sz : List (Nat × Nat)) : List (List Nat) := sz.foldl (fun cs s => cs.flatMap fun c => (List.range (s.1 + s.2)).map fun k => c ++ [k]) [[]]
theorem cellsN_snoc (sz : List (Nat × Nat)) (s : Nat × Nat) : cellsN (sz ++ [s]) = (cellsN sz).flatMap fun c => (List.range (s.1 + s.2)).map fun k => c ++ [k] := by
  unfold cellsN
  rw [List.foldl_append]
  rfl
theorem snoc_ind {α : Type} {P : List α → Prop} (h0 : P []) (h1 : ∀ l a, P l → P (l ++ [a])) (l : List α) : P l := by
  have : ∀ n (l : List α), l.length = n → P l := by
    intro n
    induction n with
    | zero => intro l hl; rw [List.length_eq_zero_iff.mp hl]; exact h0
    | succ n ih =>
      intro l hl
      have hne : l ≠ [] := by rintro rfl; simp at hl
      rw [← List.dropLast_concat_getLast hne]
      exact h1 _ _ (ih _ (by simp [hl]))
  exact this _ l rfl
theorem cellsN_mem (sz : List (Nat × Nat)) : ∀ c, c ∈ cellsN sz ↔ IsCell sz c := by
  induction sz using snoc_ind with
  | h0 =>
    intro c
    constructor
    · intro h
      have : c = [] := by simpa [cellsN] using h
      subst this
      exact ⟨rfl, fun w s x h => by simp at h⟩
    · intro h
      have : c = [] := List.length_eq_zero_iff.mp h.1
      subst this
      simp [cellsN]
  | h1 l s ih =>
    intro c
    rw [cellsN_snoc, List.mem_flatMap]
    constructor
    · rintro ⟨c0, h0, h1⟩
      obtain ⟨k, hk, rfl⟩ := List.mem_map.mp h1
      have hk := List.mem_range.mp hk
      obtain ⟨a, b⟩ := (ih c0).mp h0
      refine ⟨by simp [a], fun w t x h2 h3 => ?_⟩
      by_cases hw : w < l.length
      · rw [List.getElem?_append_left hw] at h2
        rw [List.getElem?_append_left (by omega)] at h3
        exact b w t x h2 h3
      · rw [List.getElem?_append_right (by omega)] at h2 h3
        rw [a] at h3
        have hw2 : w - l.length = 0 := by
          have := (List.getElem?_eq_some_iff.mp h2).1
          simpa using this
        rw [hw2] at h2 h3
        simp at h2 h3
        subst h2; subst h3; exact hk
    · rintro ⟨a, b⟩
      have hne : c ≠ [] := by rintro rfl; simp at a
      obtain ⟨c0, k, rfl⟩ : ∃ c0 k, c = c0 ++ [k] := ⟨_, _, (List.dropLast_concat_getLast hne).symm⟩
      have hl : c0.length = l.length := by simpa using a
      refine ⟨c0, (ih c0).mpr ⟨hl, fun w t x h2 h3 => ?_⟩, List.mem_map.mpr ⟨k, List.mem_range.mpr ?_, rfl⟩⟩
      · have hw := (List.getElem?_eq_some_iff.mp h2).1
        refine b w t x ?_ ?_
        · rw [List.getElem?_append_left hw]; exact h2
        · rw [List.getElem?_append_left (by omega)]; exact h3
      · refine b l.length s k ?_ ?_
        · simp
        · rw [← hl]; simp
theorem nodup_flatMap {α β : Type} {l : List α} {g : α → List β} (h : l.Nodup) (h1 : ∀ a ∈ l, (g a).Nodup) (h2 : ∀ a b x, a ∈ l → b ∈ l → x ∈ g a → x ∈ g b → a = b) : (l.flatMap g).Nodup := by
  induction l with
  | nil => simp
  | cons a r ih =>
    obtain ⟨n1, n2⟩ := List.nodup_cons.mp h
    rw [List.flatMap_cons, List.nodup_append]
    refine ⟨h1 a (by simp), ih n2 (fun b hb => h1 b (by simp [hb])) (fun b c x hb hc => h2 b c x (by simp [hb]) (by simp [hc])), ?_⟩
    rintro x hx y hy rfl
    obtain ⟨b, hb, hy⟩ := List.mem_flatMap.mp hy
    exact n1 (h2 a b x (by simp) (by simp [hb]) hx hy ▸ hb)
theorem cellsN_nodup (sz : List (Nat × Nat)) : (cellsN sz).Nodup := by
  induction sz using snoc_ind with
  | h0 => simp [cellsN]
  | h1 l s ih =>
    rw [cellsN_snoc]
    refine nodup_flatMap ih (fun a _ => ?_) (fun a b x _ _ hx hy => ?_)
    · rw [List.Nodup, List.pairwise_map]
      exact List.nodup_range.imp fun hne e => hne (by simpa using e)
    · obtain ⟨i, _, rfl⟩ := List.mem_map.mp hx
      obtain ⟨j, _, e⟩ := List.mem_map.mp hy
      exact (List.append_inj_left' e rfl).symm
theorem cellsN_head (sz : List (Nat × Nat)) (h : ∀ s ∈ sz, 0 < s.2) : ∃ r, cellsN sz = List.replicate sz.length 0 :: r := by
  induction sz using snoc_ind with
  | h0 => exact ⟨[], rfl⟩
  | h1 l s ih =>
    obtain ⟨r, e⟩ := ih fun s hs => h s (by simp [hs])
    have hs := h s (by simp)
    obtain ⟨k, hk⟩ : ∃ k, s.1 + s.2 = k + 1 := ⟨s.1 + s.2 - 1, by omega⟩
    refine ⟨?_, ?_⟩
    rotate_left
    · rw [cellsN_snoc, e, List.flatMap_cons, hk, List.range_succ_eq_map, List.map_cons, List.cons_append, List.length_append, List.length_singleton, List.replicate_succ']
    
theorem cellsN_len (sz : List (Nat × Nat)) : (cellsN sz).length = (sz.map fun s => s.1 + s.2).foldl (· * ·) 1 := by
  induction sz using snoc_ind with
  | h0 => rfl
  | h1 l s ih =>
    rw [cellsN_snoc, List.map_append, List.foldl_append, List.length_flatMap]
    simp only [List.length_map, List.length_range, List.map_const', List.sum_replicate_nat, ih]
    rfl
/-! ### cells in any sequence, the first one ahead -/
structure Order (sz : List (Nat × Nat)) (od : List (List Nat)) : Prop where
  pos : ∀ s ∈ sz, 0 < s.2
  nd : od.Nodup
  mem : ∀ c, c ∈ od ↔ IsCell sz c
  hd : od[0]? = some (List.replicate sz.length 0)
/-- a token on wire w -/
def adv (sz : List (Nat × Nat)) (w : Nat) (c : List Nat) : List Nat := c.set w (nxc (sz.getD w (0, 0)) (c.getD w 0))
theorem adv_cell {sz : List (Nat × Nat)} (hp : ∀ s ∈ sz, 0 < s.2) {w : Nat} {c : List Nat} (h : IsCell sz c) : IsCell sz (adv sz w c) := by
  refine ⟨by simp [adv, h.1], fun v s x h1 h2 => ?_⟩
  unfold adv at h2
  by_cases hv : w = v
  · subst hv
    have hw := (List.getElem?_eq_some_iff.mp h1).1
    have hwc : w < c.length := by rw [h.1]; exact hw
    rw [List.getElem?_set_self hwc] at h2
    have := Option.some.inj h2
    subst this
    have e1 : sz.getD w (0, 0) = s := by rw [List.getD_eq_getElem?_getD, h1]; rfl
    have e2 : c[w]? = some (c.getD w 0) := by rw [List.getD_eq_getElem?_getD, List.getElem?_eq_getElem hwc]; rfl
    rw [e1]
    exact nxc_lt (hp s (List.mem_of_getElem? h1)) (h.2 w s _ h1 e2)
  · rw [List.getElem?_set_ne hv] at h2
    exact h.2 v s x h1 h2
theorem adv_comm (sz : List (Nat × Nat)) (v w : Nat) (c : List Nat) : adv sz v (adv sz w c) = adv sz w (adv sz v c) := by
  by_cases h : v = w
  · subst h; rfl
  · unfold adv
    have e1 : (c.set w (nxc (sz.getD w (0, 0)) (c.getD w 0))).getD v 0 = c.getD v 0 := by
      rw [List.getD_eq_getElem?_getD, List.getElem?_set_ne (Ne.symm h), ← List.getD_eq_getElem?_getD]
    have e2 : (c.set v (nxc (sz.getD v (0, 0)) (c.getD v 0))).getD w 0 = c.getD w 0 := by
      rw [List.getD_eq_getElem?_getD, List.getElem?_set_ne h, ← List.getD_eq_getElem?_getD]
    rw [e1, e2, List.set_comm _ _ (Ne.symm h)]
/-- the map on numbers of cells -/
def stepO (sz : List (Nat × Nat)) (od : List (List Nat)) (w m : Nat) : Nat := od.idxOf (adv sz w (od.getD m []))
variable {sz : List (Nat × Nat)} {od : List (List Nat)}
theorem Order.at_ (O : Order sz od) {m : Nat} (hm : m < od.length) : od[m]? = some (od.getD m []) ∧ IsCell sz (od.getD m []) := by
  have e : od[m]? = some (od.getD m []) := by rw [List.getD_eq_getElem?_getD, List.getElem?_eq_getElem hm]; rfl
  exact ⟨e, (O.mem _).mp (List.mem_of_getElem? e)⟩
theorem Order.idx (O : Order sz od) {c : List Nat} (h : IsCell sz c) : od.idxOf c < od.length ∧ od.getD (od.idxOf c) [] = c ∧ od[od.idxOf c]? = some c := by
  have hm := (O.mem c).mpr h
  have hl := List.idxOf_lt_length_of_mem hm
  have e : od[od.idxOf c]? = some c := by rw [List.getElem?_eq_getElem hl, List.getElem_idxOf hl]
  exact ⟨hl, by rw [List.getD_eq_getElem?_getD, e]; rfl, e⟩
theorem Order.step (O : Order sz od) {w m : Nat} (hm : m < od.length) : stepO sz od w m < od.length ∧ od.getD (stepO sz od w m) [] = adv sz w (od.getD m []) := by
  obtain ⟨h1, h2, _⟩ := O.idx (adv_cell (w := w) O.pos (O.at_ hm).2)
  exact ⟨h1, h2⟩
theorem Order.inj (O : Order sz od) {m k : Nat} (hm : m < od.length) (hk : k < od.length) (e : od.getD m [] = od.getD k []) : m = k := by
  have a := (O.at_ hm).1
  have b := (O.at_ hk).1
  rw [e, ← b] at a
  exact (List.getElem?_inj hm O.nd).mp a
theorem Order.net (O : Order sz od) : Net od.length sz.length (stepO sz od) where
  pos := (List.getElem?_eq_some_iff.mp O.hd).1
  lt := fun w m _ hm => (O.step hm).1
  comm := fun v w m _ _ hm => by
    have h1 := O.step (w := w) hm
    have h2 := O.step (w := v) hm
    have h3 := O.step (w := v) h1.1
    have h4 := O.step (w := w) h2.1
    refine O.inj h3.1 h4.1 ?_
    rw [h3.2, h4.2, h1.2, h2.2, adv_comm]
  all := fun m hm => by
    have p0 := (List.getElem?_eq_some_iff.mp O.hd).1
    have key : ∀ (j : Nat), j ≤ sz.length → ∀ c, IsCell sz c → (∀ i, j ≤ i → i < sz.length → c[i]? = some 0) → Rc sz.length (stepO sz od) 0 (od.idxOf c) := by
      intro j
      induction j with
      | zero =>
        intro _ c hc hz
        have e : c = List.replicate sz.length 0 := by
          apply List.ext_getElem?
          intro i
          by_cases hi : i < sz.length
          · rw [hz i (by omega) hi, List.getElem?_replicate, if_pos hi]
          · rw [List.getElem?_eq_none (by rw [hc.1]; omega), List.getElem?_eq_none (by simp; omega)]
        have : od.idxOf c = 0 := by
          obtain ⟨h1, h2, h3⟩ := O.idx hc
          refine O.inj h1 p0 ?_
          rw [h2, e, List.getD_eq_getElem?_getD, O.hd]; rfl
        rw [this]; exact .refl 0
      | succ j ih =>
        intro hj c hc hz
        have hjs : j < sz.length := by omega
        -- along wire j
        have line : ∀ k, k < (sz[j]).1 + (sz[j]).2 → Rc sz.length (stepO sz od) 0 (od.idxOf (c.set j k)) := by
          intro k
          have cell : ∀ k, k < (sz[j]).1 + (sz[j]).2 → IsCell sz (c.set j k) := fun k hk => by
            refine ⟨by simp [hc.1], fun v s x h1 h2 => ?_⟩
            by_cases hv : j = v
            · subst hv
              rw [List.getElem?_set_self (by rw [hc.1]; exact hjs)] at h2
              rw [List.getElem?_eq_getElem hjs] at h1
              cases h1; cases h2; exact hk
            · rw [List.getElem?_set_ne hv] at h2
              exact hc.2 v s x h1 h2
          induction k with
          | zero =>
            intro hk
            refine ih (by omega) _ (cell 0 hk) fun i hi his => ?_
            by_cases hij : j = i
            · subst hij; rw [List.getElem?_set_self (by rw [hc.1]; exact hjs)]
            · rw [List.getElem?_set_ne hij]; exact hz i (by omega) his
          | succ k ihk =>
            intro hk
            have r := ihk (by omega)
            have hc' := cell k (by omega)
            obtain ⟨h1, h2, _⟩ := O.idx hc'
            have e : stepO sz od j (od.idxOf (c.set j k)) = od.idxOf (c.set j (k + 1)) := by
              unfold stepO
              rw [h2]
              congr 1
              unfold adv
              have e1 : (c.set j k).getD j 0 = k := by rw [List.getD_eq_getElem?_getD, List.getElem?_set_self (by rw [hc.1]; exact hjs)]; rfl
              have e2 : sz.getD j (0, 0) = sz[j] := by rw [List.getD_eq_getElem?_getD, List.getElem?_eq_getElem hjs]; rfl
              rw [e1, e2, List.set_set]
              unfold nxc
              rw [if_pos hk]
            rw [← e]
            exact .tail r hjs
        have hjc : j < c.length := by rw [hc.1]; exact hjs
        have := line c[j] (hc.2 j _ _ (List.getElem?_eq_getElem hjs) (List.getElem?_eq_getElem hjc))
        rwa [List.set_getElem_self] at this
    have h := O.at_ hm
    have r := key sz.length (Nat.le_refl _) _ h.2 fun i h1 h2 => by omega
    have : od.idxOf (od.getD m []) = m := by
      obtain ⟨h1, h2, _⟩ := O.idx h.2
      exact O.inj h1 hm h2
    rwa [this] at r
end CM
end
section
set_option Elab.async false
set_option linter.all false
set_option maxRecDepth 100000
noncomputable section
namespace L47
open PD L2
/-! ### machines -/
def stD : Option (Nat × Int) → D
  | none => .non
  | some (m, g) => .tup [dn m, .tup [.int g]]
def rwD (ins : Nat) (F : Nat → Option (Nat × Int)) : D := .tup ((List.range ins).map fun w => stD (F w))
/-- n modes, ins wires in, F w m: the step of wire w from mode m -/
def MD (n ins : Nat) (F : Nat → Nat → Option (Nat × Int)) : D := .tup [dn ins, .int 1, .tup ((List.range n).map fun m => rwD ins fun w => F w m)]
@[simp] theorem stD_imm (s : Option (Nat × Int)) : (stD s).imm = true := by
  rcases s with _ | ⟨m, g⟩ <;> simp [stD, dn]
@[simp] theorem rwD_imm (ins : Nat) (F : Nat → Option (Nat × Int)) : (rwD ins F).imm = true := by simp [rwD]
@[simp] theorem MD_imm (n ins : Nat) (F : Nat → Nat → Option (Nat × Int)) : (MD n ins F).imm = true := by simp [MD, dn]
@[simp] theorem MD_2 (n ins : Nat) (F : Nat → Nat → Option (Nat × Int)) : gIxT (MD n ins F) (.int 2) = some (.tup ((List.range n).map fun m => rwD ins fun w => F w m)) := by simp [MD]
@[simp] theorem MD_1 (n ins : Nat) (F : Nat → Nat → Option (Nat × Int)) : gIxT (MD n ins F) (.int 1) = some (.int 1) := by simp [MD]
@[simp] theorem MD_0 (n ins : Nat) (F : Nat → Nat → Option (Nat × Int)) : gIxT (MD n ins F) (.int 0) = some (dn ins) := by simp [MD]
theorem atI_range {n m : Nat} {φ : Nat → D} (h : m < n) : atI ((List.range n).map φ) (m : Int) = some (φ m) := PD.atI_nat (by simp [h])
theorem MD_row {n ins m : Nat} {F : Nat → Nat → Option (Nat × Int)} (h : m < n) : gIxT (.tup ((List.range n).map fun m => rwD ins fun w => F w m)) (dn m) = some (rwD ins fun w => F w m) := by
  simp [dn, atI_range h]
theorem row_at {ins w : Nat} {F : Nat → Option (Nat × Int)} (h : w < ins) : gIxT (rwD ins F) (dn w) = some (stD (F w)) := by
  simp [dn, rwD, atI_range h]
@[simp] theorem tupI_rwD (ins : Nat) (F : Nat → Option (Nat × Int)) : tupI (rwD ins F) = some ((List.range ins).map fun w => stD (F w)) := rfl
theorem nothing1 : p_nothing [.int 1] = some (.ok (.tup [.int 0]) [none]) := by rw [p_nothing, defD_eq]; rfl
theorem added1 (a b : Int) : p_added [.tup [.int a], .tup [.int b]] = some (.ok (.tup [.int (a + b)]) [none, none]) := by rw [p_added, defD_eq]; rfl
theorem taken1 (a b : Int) : p_taken_off [.tup [.int a], .tup [.int b]] = some (.ok (.tup [.int (a - b)]) [none, none]) := by rw [p_taken_off, defD_eq]; rfl
theorem times1 (a k : Int) (h : okMul a k = true) : p_times [.tup [.int a], .int k] = some (.ok (.tup [.int (a * k)]) [none, none]) := by
  simp [p_times, defD_eq, g_times, dLc, lcL, wipeR, dYes, h, lim_eq]
/-- the modes behind a mode -/
def nxs (ins : Nat) (F : Nat → Option (Nat × Int)) : List Nat := (List.range ins).filterMap fun w => (F w).map (·.1)
theorem nxs_eq (F : Nat → Option (Nat × Int)) : ∀ l : List Nat, ((l.map fun w => stD (F w)).filter fun d => !decide (d = D.non)).map (fun d => match d with | .tup (x :: _) => x | _ => .non) = (l.filterMap fun w => (F w).map (·.1)).map dn := by
  intro l
  induction l with
  | nil => rfl
  | cons w r ih =>
    have e0 : stD none = .non := rfl
    have e1 : ∀ k g, stD (some (k, g)) = .tup [dn k, .tup [.int g]] := fun _ _ => rfl
    rw [List.map_cons]
    rcases hF : F w with _ | ⟨k, g⟩
    · rw [e0]; simpa [hF] using ih
    · rw [e1]; simpa [hF, List.filter_cons] using ih
theorem modes_behind1 {n ins m : Nat} {F : Nat → Nat → Option (Nat × Int)} (h : m < n) (hi : ins ≤ 100) :
    p_modes_behind [MD n ins F, dn m] = some (.ok (.lst ((nxs ins fun w => F w m).map dn)) [none, none]) := by
  have key := dLc_pure (i := 2) (tt := dB (dOp (gIsN true) (dVar 2) (dC .non))) (fe := dIx gIxT (dVar 2) (dC (.int 0))) (fi := dIter1 tupI (dIx gIxT (dIx gIxT (dVar 0) (dC (.int 2))) (dVar 1)))
    (ρ := [some (MD n ins F), some (dn m), none]) (it := ⟨(List.range ins).map fun w => stD (F w m), [], false⟩) (b := fun d => decide (d ≠ .non)) (y := fun d => match d with | .tup (x :: _) => x | _ => .non)
    (by simp [dn_imm, MD_row h]) rfl (by simp) (by simp) (by simp [lim_eq]; omega) (fun d hd => by
      obtain ⟨w, _, rfl⟩ := List.mem_map.mp hd
      rcases F w m with _ | ⟨k, g⟩
      · simp [stD]
      · simp [stD, dn])
  simp only [p_modes_behind, defD_eq, g_modes_behind, List.length_cons, List.length_nil, List.map_cons, List.map_nil, List.cons_append, List.nil_append, ev_dRet, ev_bnd]
  simp [key]
  exact nxs_eq (fun w => F w m) _
/-- a part of the modes that is not left -/
def Closed (n0 ins : Nat) (F : Nat → Nat → Option (Nat × Int)) : Prop := ∀ m, m < n0 → ∀ k ∈ nxs ins (fun w => F w m), k < n0
theorem come_to1 {n n0 ins : Nat} {F : Nat → Nat → Option (Nat × Int)} (h0 : 0 < n0) (hn : n0 ≤ n) (hb : n ≤ 500) (hi : ins ≤ 100) (hc : Closed n0 ins F) :
    ∃ r : List Nat, p_modes_come_to [MD n ins F] = some (.ok (.tup ((0 :: r).map dn)) [none]) ∧ ∀ x ∈ 0 :: r, x < n0 := by
  -- the loop
  have hw := while_rule (t := dB (dOp gLt (dVar 3) (dCB gLen (dCons (dVar 1) (dNil)))))
    (g := dSeq (dFor [] (tName 4) (dIter1 D.lis (dCall p_modes_behind (dCons (dVar 0) (dCons (dIx gIxL (dVar 1) (dVar 3)) (dNil))))) (dIfS (dB (dOp (gInD true) (dVar 4) (dVar 2))) (dSeq (dPut 2 (dVar 4) (dC (.bl true)))
      (dExp (dMtM gApp 1 (dCons (dVar 4) (dNil))))) (dNil'))) (dAugI (fun i j => i + j) 3 (dC (.int 1))))
    (fun m ρ => ∃ (f : List Nat) (k : Nat) (x : Option D), ρ = [some (MD n ins F), some (.lst (f.map dn)), some (.dic (kD f fun _ => .bl true)), some (dn k), x] ∧ f.Nodup ∧ (∀ y ∈ f, y < n0) ∧ f.head? = some 0 ∧ k ≤ n0 ∧ m = n0 - k)
    (fun ρ => ∃ (f : List Nat) (k : Nat) (x : Option D), ρ = [some (MD n ins F), some (.lst (f.map dn)), some (.dic (kD f fun _ => .bl true)), some (dn k), x] ∧ (∀ y ∈ f, y < n0) ∧ f.head? = some 0) ?_ 1000 n0 [some (MD n ins F), some (.lst [dn 0]), some (.dic (kD [0] fun _ => .bl true)), some (dn 0), none] (by omega) ⟨[0], 0, none, rfl, by simp, by simpa using h0, rfl, by omega, by omega⟩
  · obtain ⟨ρ', e, f, k, x, rfl, h1, h2⟩ := hw
    cases f with
    | nil => simp at h2
    | cons a r =>
      simp at h2
      subst h2
      refine ⟨r, ?_, h1⟩
      simp only [p_modes_come_to, defD_eq, g_modes_come_to, List.length_cons, List.length_nil, List.map_cons, List.map_nil, List.cons_append, List.nil_append]
      have e' : dWhile _ _ 1000 [some (MD n ins F), some (.lst [.int 0]), some (.dic [(.inl 0, .bl true)]), some (.int 0), none] = _ := e
      simp [e', lim_eq]
  · rintro m ρ ⟨f, k, x, rfl, nd, hlt, hh, hk, rfl⟩
    have hfl := nodup_len nd hlt
    refine ⟨decide (k < f.length), _, true, by simp [dn], fun hb => ?_, fun _ => ⟨f, k, x, rfl, hlt, hh⟩⟩
    have hkf : k < f.length := by simpa using hb
    have hfk : f[k] < n0 := hlt _ (List.getElem_mem _)
    obtain ⟨ρ', e, f', x', rfl, nd', hlt', ⟨r, rfl⟩⟩ := for_mapped (tg := tName 4) (g := dIfS (dB (dOp (gInD true) (dVar 4) (dVar 2))) (dSeq (dPut 2 (dVar 4) (dC (.bl true))) (dExp (dMtM gApp 1 (dCons (dVar 4) (dNil))))) (dNil'))
      (deps := []) (ρ0 := [some (MD n ins F), some (.lst (f.map dn)), some (.dic (kD f fun _ => .bl true)), some (dn k), x]) (φ := dn) (l := nxs ins fun w => F w f[k]) (ρ := [some (MD n ins F), some (.lst (f.map dn)), some (.dic (kD f fun _ => .bl true)), some (dn k), x])
      (fun _ ρ => ∃ (f' : List Nat) (x : Option D), ρ = [some (MD n ins F), some (.lst (f'.map dn)), some (.dic (kD f' fun _ => .bl true)), some (dn k), x] ∧ f'.Nodup ∧ (∀ y ∈ f', y < n0) ∧ ∃ r, f' = f ++ r)
      (fun _ _ _ => rfl) ⟨f, x, rfl, nd, hlt, [], by simp⟩ (by
        rintro a j b ρ hl ⟨f', x', rfl, nd', hlt', r, rfl⟩
        have hj : j < n0 := hc _ hfk j (by rw [hl]; simp)
        have hl' := nodup_len nd' hlt'
        by_cases hm : j ∈ f ++ r
        · exact ⟨_, _, rfl, .inl (by simp [dn, getD_kD, hm]; rfl), ⟨f ++ r, _, rfl, nd', hlt', r, rfl⟩⟩
        · have hlt2 : (f ++ r).length < n0 := by
            have := nodup_len (addN_nodup (j := j) nd') (fun y hy => (addN_mem.mp hy).elim (hlt' y) (fun z => z ▸ hj))
            rw [addN, if_neg hm] at this
            simp at this ⊢; omega
          have hlt3 : (f ++ r).length < LIM := by rw [lim_eq]; omega
          refine ⟨_, [some (MD n ins F), some (.lst (((f ++ r) ++ [j]).map dn)), some (.dic (kD ((f ++ r) ++ [j]) fun _ => .bl true)), some (dn k), some (dn j)], rfl, .inl ?_, ⟨f ++ r ++ [j], _, rfl, ?_, ?_, r ++ [j], by simp⟩⟩
          · have p := putD_kD (v := fun _ => D.bl true) (v' := fun _ => .bl true) (d := .bl true) hm (fun _ _ => rfl) rfl
            simp only [List.length_append] at hlt3
            simp [dn, getD_kD, hm] at p ⊢
            simp [p, hlt3]
          · have := addN_nodup (j := j) nd'
            rwa [addN, if_neg hm] at this
          · intro y hy
            rcases List.mem_append.mp hy with z | z
            · exact hlt' y z
            · simp at z; exact z ▸ hj)
    refine ⟨[some (MD n ins F), some (.lst ((f ++ r).map dn)), some (.dic (kD (f ++ r) fun _ => .bl true)), some (dn (k + 1)), x'], ?_, n0 - (k + 1), by omega, f ++ r, k + 1, x', rfl, nd', hlt', ?_, by omega, rfl⟩
    · have ef : atI (f.map dn) (k : Int) = some (dn f[k]) := PD.atI_nat (by simp [hkf])
      have mb := modes_behind1 (F := F) (ins := ins) (show f[k] < n by omega) hi
      simp [dn] at mb e
      simp [dn, ef, mb, e]
    · cases f with
      | nil => simp at hkf
      | cons a s => simpa using hh
/-! ### need_rest -/
theorem row_shape (ins : Nat) (F : Nat → Option (Nat × Int)) : PySem.SeqAt.shaped (toP (rwD ins F)) = true := by
  have h : ∀ l : List Nat, PySem.PyData.canLayAll0 (toPL (l.map fun w => stD (F w))) = true ∧ PySem.PyData.depthAll (toPL (l.map fun w => stD (F w))) ≤ 3 := by
    intro l
    induction l with
    | nil => simp [toPL, PySem.PyData.canLayAll0, PySem.PyData.depthAll]
    | cons a r ih =>
      have e0 : stD none = .non := rfl
      have e1 : ∀ k g, stD (some (k, g)) = .tup [dn k, .tup [.int g]] := fun _ _ => rfl
      rw [List.map_cons]
      rcases F a with _ | ⟨k, g⟩
      · rw [e0]
        simp only [toPL, toP, PySem.PyData.canLayAll0, PySem.PyData.canLay0, PySem.PyData.depthAll, PySem.PyData.depth, Bool.true_and]
        exact ⟨ih.1, by have := ih.2; omega⟩
      · rw [e1]
        simp only [toPL, toP, dn, PySem.PyData.canLayAll0, PySem.PyData.canLay0, PySem.PyData.depthAll, PySem.PyData.depth, Bool.true_and]
        exact ⟨ih.1, by have := ih.2; omega⟩
  have := h (List.range ins)
  simp only [rwD, toP, PySem.SeqAt.shaped, PySem.PyData.canLay0, PySem.PyData.depth, this.1, Bool.true_and, decide_eq_true_eq]
  omega
theorem none_in_row (ins : Nat) (F : Nat → Option (Nat × Int)) : gInN false .non (rwD ins F) = some (.bl ((List.range ins).any fun w => (F w).isNone)) := by
  have h : ∀ l : List Nat, anyP .non (l.map fun w => stD (F w)) = l.any fun w => (F w).isNone := by
    intro l
    unfold anyP
    induction l with
    | nil => rfl
    | cons a r ih =>
      rw [List.map_cons, toPL, List.any_cons, List.any_cons, ih]
      congr 1
      rcases F a with _ | ⟨k, g⟩ <;> rfl
  unfold gInN
  have s1 : (rwD ins F).seq = some ((List.range ins).map fun w => stD (F w)) := rfl
  have s2 : PySem.SeqAt.shaped (toP (.tup ((List.range ins).map fun w => stD (F w)))) = true := row_shape ins F
  have s3 : PySem.SeqAt.shaped (toP .non) = true := rfl
  simp [s1, s2, s3, h]
theorem need_ok {c : PySem.Value} {n n0 ins : Nat} {F : Nat → Nat → Option (Nat × Int)} (h0 : 0 < n0) (hn : n0 ≤ n) (hb : n ≤ 500) (hi : ins ≤ 100) (hc : Closed n0 ins F) (ht : ∀ m, m < n0 → ∀ w, w < ins → (F w m).isSome) :
    p_need_rest c [MD n ins F] = some (.ok .non [none]) := by
  obtain ⟨r, e, hr⟩ := come_to1 h0 hn hb hi hc
  obtain ⟨ρ', e2, x, rfl⟩ := for_mapped (tg := tName 1) (g := dIfS (dB (dOp (gInN false) (dC .non) (dIx gIxT (dIx gIxT (dVar 0) (dC (.int 2))) (dVar 1)))) (dRaise c) (dNil')) (deps := []) (ρ0 := [some (MD n ins F), none]) (φ := dn) (l := 0 :: r) (ρ := [some (MD n ins F), none])
    (fun _ ρ => ∃ x, ρ = [some (MD n ins F), x]) (fun _ _ _ => rfl) ⟨none, rfl⟩ (by
      rintro a j b ρ hl ⟨x, rfl⟩
      have hj : j < n0 := hr j (by rw [hl]; simp)
      refine ⟨_, _, rfl, .inl ?_, ⟨some (dn j), rfl⟩⟩
      have hno : ((List.range ins).any fun w => (F w j).isNone) = false := by
        rw [List.any_eq_false]
        intro w hw
        have := ht j hj w (List.mem_range.mp hw)
        simp [Option.isSome_iff_ne_none] at this ⊢
        exact this
      simp [MD_row (F := F) (ins := ins) (show j < n by omega), none_in_row, hno])
  simp at e e2
  simp [p_need_rest, defD_eq, g_need_rest, e, e2]
theorem need_no {c : PySem.Value} {n n0 ins : Nat} {F : Nat → Nat → Option (Nat × Int)} (h0 : 0 < n0) (hn : n0 ≤ n) (hb : n ≤ 500) (hi : ins ≤ 100) (hc : Closed n0 ins F) {w : Nat} (hw : w < ins) (hno : F w 0 = none) :
    p_need_rest c [MD n ins F] = some (.exc c [none]) := by
  obtain ⟨r, e, hr⟩ := come_to1 h0 hn hb hi hc
  have hyes : ((List.range ins).any fun w => (F w 0).isNone) = true := by
    rw [List.any_eq_true]
    exact ⟨w, List.mem_range.mpr hw, by simp [hno]⟩
  have hrow := MD_row (F := F) (ins := ins) (show 0 < n by omega)
  simp at e hrow
  simp [p_need_rest, defD_eq, g_need_rest, e, dForL, dRaise, hrow, none_in_row, hyes]
end L47
end
end
section
set_option Elab.async false
set_option linter.all false
set_option maxRecDepth 100000
noncomputable section
namespace L47
open PD L2
/-! ### the line of a wire -/
open CM
theorem _root_.CM.Line.uniq {f : Nat → Nat} {m L t L' t' : Nat} (a : Line f m L t) (b : Line f m L' t') : L = L' ∧ t = t' := by
  have h1 : ¬ L < L' := fun h => b.apart t L a.ht h a.back.symm
  have h2 : ¬ L' < L := fun h => a.apart t' L' b.ht h b.back.symm
  have e : L = L' := by omega
  subst e
  refine ⟨rfl, ?_⟩
  have e2 : it f t m = it f t' m := a.back.symm.trans b.back
  have := a.ht; have := b.ht
  rcases Nat.lt_trichotomy t t' with h | h | h
  · exact absurd e2 (a.apart t t' h (by omega))
  · exact h
  · exact absurd e2.symm (a.apart t' t h (by omega))
theorem _root_.CM.Line.cyc {f : Nat → Nat} {m L t : Nat} (a : Line f m L t) (i : Nat) (hi : t ≤ i) : it f (i + (L - t)) m = it f i m := by
  have := a.ht
  have e : i + (L - t) = (i - t) + L := by omega
  have e2 : i = (i - t) + t := by omega
  rw [e, it_add, a.back, ← it_add, ← e2]
theorem _root_.CM.Line.cycs {f : Nat → Nat} {m L t : Nat} (a : Line f m L t) (i k : Nat) (hi : t ≤ i) : it f (i + k * (L - t)) m = it f i m := by
  induction k with
  | zero => simp
  | succ k ih => rw [Nat.succ_mul, ← Nat.add_assoc, a.cyc _ (by omega), ih]
/-- the step of a wire, where it is one -/
structure Steps (n0 ins : Nat) (F : Nat → Nat → Option (Nat × Int)) (f : Nat → Nat → Nat) (g : Nat → Nat → Int) : Prop where
  at_ : ∀ w m, w < ins → m < n0 → F w m = some (f w m, g w m)
  lt : ∀ w m, w < ins → m < n0 → f w m < n0
def tg1 (x : Int) : D := .tup [.int x]
@[simp] theorem tg1_imm (x : Int) : (tg1 x).imm = true := rfl
theorem stD_some (k : Nat) (x : Int) : stD (some (k, x)) = .tup [dn k, tg1 x] := rfl
theorem line1 {n n0 ins : Nat} {F : Nat → Nat → Option (Nat × Int)} {f : Nat → Nat → Nat} {g : Nat → Nat → Int} (S : Steps n0 ins F f g) (hn : n0 ≤ n) (hb : n ≤ 500) {m w : Nat} (hm : m < n0) (hw : w < ins) :
    ∃ (L t : Nat) (gl : List Int), Line (f w) m L t ∧ gl.length = L ∧ L ≤ n0 ∧
      p_wire_line [MD n ins F, dn m, dn w] = some (.ok (.tup [.tup ((List.range L).map fun i => dn (it (f w) i m)), .tup (gl.map tg1), dn t]) [none, none, none]) := by
  have hlt : ∀ i, it (f w) i m < n0 := it_lt (fun x hx => S.lt w x hw hx) hm
  have hstep : ∀ x, x < n0 → atI ((List.range n).map fun m => rwD ins fun w => F w m) (x : Int) = some (rwD ins fun w => F w x) ∧ gIxT (rwD ins fun w => F w x) (dn w) = some (stD (some (f w x, g w x))) := fun x hx => by
    refine ⟨atI_range (by omega), ?_⟩
    rw [row_at hw, S.at_ w x hw hx]
  have hw2 := while_rule
    (t := dAnd (dB (dOp (gIsN true) (dVar 6) (dC .non))) (dB (dOp (gInD true) (dIx gIxT (dVar 6) (dC (.int 0))) (dVar 5))))
    (g := dSeq (dPut 5 (dIx gIxT (dVar 6) (dC (.int 0))) (dCB gLen (dCons (dVar 3) (dNil))))
      (dSeq (dExp (dMtM gApp 3 (dCons (dIx gIxT (dVar 6) (dC (.int 0))) (dNil))))
      (dSeq (dExp (dMtM gApp 4 (dCons (dCall p_added (dCons (dIx gIxL (dVar 4) (d1 gNeg (dC (.int 1)))) (dCons (dIx gIxT (dVar 6) (dC (.int 1))) (dNil)))) (dNil))))
      (dAsg (tName 6) (dIx gIxT (dIx gIxT (dIx gIxT (dVar 0) (dC (.int 2))) (dIx gIxT (dVar 6) (dC (.int 0)))) (dVar 2))))))
    (fun k ρ => ∃ (L : Nat) (gl : List Int) (v : Nat → D) (x : Int), ρ = [some (MD n ins F), some (dn m), some (dn w), some (.lst ((List.range L).map fun i => dn (it (f w) i m))), some (.lst (gl.map tg1)), some (.dic (kD ((List.range L).map fun i => it (f w) i m) v)), some (stD (some (it (f w) L m, x)))] ∧
      0 < L ∧ gl.length = L ∧ L ≤ n0 ∧ (∀ i j, i < j → j < L → it (f w) i m ≠ it (f w) j m) ∧ (∀ i, i < L → v (it (f w) i m) = dn i) ∧ k = n0 - L)
    (fun ρ => ∃ (L t : Nat) (gl : List Int) (v : Nat → D) (x : Int), ρ = [some (MD n ins F), some (dn m), some (dn w), some (.lst ((List.range L).map fun i => dn (it (f w) i m))), some (.lst (gl.map tg1)), some (.dic (kD ((List.range L).map fun i => it (f w) i m) v)), some (stD (some (it (f w) L m, x)))] ∧
      Line (f w) m L t ∧ gl.length = L ∧ L ≤ n0 ∧ v (it (f w) t m) = dn t)
    ?_ 1000 (n0 - 1) [some (MD n ins F), some (dn m), some (dn w), some (.lst [dn m]), some (.lst [tg1 0]), some (.dic (kD [m] fun _ => dn 0)), some (stD (some (f w m, g w m)))] (by omega)
    ⟨1, [0], fun _ => dn 0, g w m, rfl, by omega, rfl, by omega, fun i j h1 h2 => by omega, fun i hi => by rw [show i = 0 by omega], rfl⟩
  · obtain ⟨ρ', e, L, t, gl, v, x, rfl, h1, h2, h3, h4⟩ := hw2
    refine ⟨L, t, gl, h1, h2, h3, ?_⟩
    obtain ⟨q1, q2⟩ := hstep m hm
    have hmem : it (f w) L m ∈ (List.range L).map fun i => it (f w) i m := by
      rw [h1.back]
      exact List.mem_map.mpr ⟨t, List.mem_range.mpr h1.ht, rfl⟩
    have hv : getD (kD ((List.range L).map fun i => it (f w) i m) v) (.inl ((it (f w) L m : Nat) : Int)) = some (dn t) := by
      rw [getD_kD, if_pos hmem, h1.back, h4]
    have e' : dWhile _ _ 1000 [some (MD n ins F), some (dn m), some (dn w), some (.lst [dn m]), some (.lst [.tup [.int 0]]), some (.dic [(.inl (m : Int), .int 0)]), some (stD (some (f w m, g w m)))] = _ := e
    have im : ((List.range L).all fun i => (dn (it (f w) i m)).imm) = true := by simp
    simp only [stD_some] at e' q2
    simp [p_wire_line, defD_eq, g_wire_line, nothing1, lim_eq, q1, q2, e', hv]
  · rintro k ρ ⟨L, gl, v, x, rfl, h1, h2, h3, h4, h5, rfl⟩
    generalize hl : ((List.range L).map fun i => it (f w) i m) = ml
    have hml : ∀ y, y ∈ ml ↔ ∃ i, i < L ∧ it (f w) i m = y := fun y => by rw [← hl]; simp
    have nd : ml.Nodup := by
      rw [← hl]
      rw [List.Nodup, List.pairwise_iff_getElem]
      intro i j hi hj hij
      simp at hj
      simpa using h4 i j hij hj
    have hdl : ((List.range L).map fun i => dn (it (f w) i m)) = ml.map dn := by rw [← hl]; simp
    have hlen : ml.length = L := by rw [← hl]; simp
    rw [hdl]
    refine ⟨!decide (it (f w) L m ∈ ml), [some (MD n ins F), some (dn m), some (dn w), some (.lst (ml.map dn)), some (.lst (gl.map tg1)), some (.dic (kD ml v)), some (stD (some (it (f w) L m, x)))], true, ?_, fun hb => ?_, fun hb => ?_⟩
    · by_cases hin : it (f w) L m ∈ ml <;> simp [stD_some, getD_kD, hin]
    · have hin : it (f w) L m ∉ ml := by simpa using hb
      have hL : L + 1 ≤ n0 := by
        have := nodup_len (n := n0) (addN_nodup (j := it (f w) L m) nd) fun y hy => (addN_mem.mp hy).elim (fun z => by obtain ⟨i, _, rfl⟩ := (hml y).mp z; exact hlt i) fun z => z ▸ hlt L
        rw [addN, if_neg hin] at this
        simp [hlen] at this
        exact this
      obtain ⟨q1, q2⟩ := hstep (it (f w) L m) (hlt L)
      obtain ⟨y, hy⟩ : ∃ y, gl.getLast? = some y := by
        cases hg : gl.getLast? with
        | some y => exact ⟨y, rfl⟩
        | none => rw [List.getLast?_eq_none_iff] at hg; subst hg; simp at h2; omega
      have hy2 : atI (gl.map tg1) (-1) = some (tg1 y) := PD.atI_last (by simp [hy])
      have p := putD_kD (v := v) (v' := fun z => if z = it (f w) L m then dn L else v z) (d := dn L) hin (fun z hz => if_neg (fun e => hin (by rw [← e]; exact hz))) (by simp)
      have hl1 : ml.length < LIM := by rw [lim_eq]; omega
      have hl2 : gl.length < LIM := by rw [lim_eq]; omega
      refine ⟨[some (MD n ins F), some (dn m), some (dn w), some (.lst ((ml ++ [it (f w) L m]).map dn)), some (.lst ((gl ++ [y + x]).map tg1)), some (.dic (kD (ml ++ [it (f w) L m]) fun z => if z = it (f w) L m then dn L else v z)), some (stD (some (it (f w) (L + 1) m, g w (it (f w) L m))))], ?_, n0 - (L + 1), by omega, L + 1, gl ++ [y + x], (fun z => if z = it (f w) L m then dn L else v z), g w (it (f w) L m), ?_, by omega, by simp [h2], hL, ?_, ?_, rfl⟩
      · have ad : p_added [tg1 y, tg1 x] = some (.ok (tg1 (y + x)) [none, none]) := added1 y x
        simp only [stD_some] at q2
        have e1 : f w (it (f w) L m) = it (f w) (L + 1) m := rfl
        rw [hlen] at hl1
        rw [h2] at hl2
        rw [e1] at q2
        simp [stD_some, hlen, h2, q1, q2, hy2, p, hl1, hl2, ad]
      · rw [← hl]; simp [List.range_succ]
      · intro i j hij hj
        by_cases hjL : j = L
        · subst hjL
          exact fun e => hin ((hml _).mpr ⟨i, hij, e⟩)
        · exact h4 i j hij (by omega)
      · intro i hi
        by_cases hiL : i = L
        · subst hiL; simp
        · have : it (f w) i m ≠ it (f w) L m := fun e => hin ((hml _).mpr ⟨i, by omega, e⟩)
          simp [this, h5 i (by omega)]
    · have hin : it (f w) L m ∈ ml := by simpa using hb
      obtain ⟨t, ht, e⟩ := (hml _).mp hin
      exact ⟨L, t, gl, v, x, by rw [hdl, hl], ⟨ht, h4, e.symm⟩, h2, h3, by rw [h5 t ht]⟩
end L47
end
end
section
set_option Elab.async false
set_option linter.all false
set_option maxRecDepth 100000
noncomputable section
namespace L47
open PD L2 CM
section
variable {n n0 ins : Nat} {F : Nat → Nat → Option (Nat × Int)} {f : Nat → Nat → Nat} {g : Nat → Nat → Int}
theorem hstep (S : Steps n0 ins F f g) (hn : n0 ≤ n) {w x : Nat} (hw : w < ins) (hx : x < n0) :
    atI ((List.range n).map fun m => rwD ins fun w => F w m) (x : Int) = some (rwD ins fun w => F w x) ∧ gIxT (rwD ins fun w => F w x) (dn w) = some (.tup [dn (f w x), tg1 (g w x)]) := by
  refine ⟨atI_range (by omega), ?_⟩
  rw [row_at hw, S.at_ w x hw hx, stD_some]
theorem added2 (a b : Int) : p_added [tg1 a, tg1 b] = some (.ok (tg1 (a + b)) [none, none]) := added1 a b
theorem taken2 (a b : Int) : p_taken_off [tg1 a, tg1 b] = some (.ok (tg1 (a - b)) [none, none]) := taken1 a b
theorem slope1 (S : Steps n0 ins F f g) (hn : n0 ≤ n) (hb : n ≤ 500) {m w L t : Nat} (hm : m < n0) (hw : w < ins) (ln : Line (f w) m L t) :
    ∃ x : Int, p_slope_at [MD n ins F, dn m, dn w] = some (.ok (.tup [dn t, dn (L - t), tg1 x]) [none, none, none]) := by
  obtain ⟨L', t', gl, ln', hg, hL, e⟩ := line1 S hn hb hm hw
  obtain ⟨rfl, rfl⟩ := ln.uniq ln'
  have h1 := ln.ht
  have hlt : it (f w) (L - 1) m < n0 := it_lt (fun x hx => S.lt w x hw hx) hm _
  obtain ⟨q1, q2⟩ := hstep S hn hw hlt
  have a1 : atI ((List.range L).map fun i => dn (it (f w) i m)) (-1) = some (dn (it (f w) (L - 1) m)) := PD.atI_last (by
    rw [List.getLast?_eq_getElem?]; simp [show L - 1 < L by omega])
  obtain ⟨y, hy⟩ : ∃ y, gl.getLast? = some y := by
    cases hg' : gl.getLast? with
    | some y => exact ⟨y, rfl⟩
    | none => rw [List.getLast?_eq_none_iff] at hg'; subst hg'; simp at hg; omega
  have a2 : atI (gl.map tg1) (-1) = some (tg1 y) := PD.atI_last (by simp [hy])
  have htg : t < gl.length := by omega
  have a3 : atI (gl.map tg1) (t : Int) = some (tg1 gl[t]) := PD.atI_nat (by simp [htg])
  have e5 : ((L : Int) - (t : Int)) = ((L - t : Nat) : Int) := by omega
  refine ⟨y + g w (it (f w) (L - 1) m) - gl[t], ?_⟩
  simp [p_slope_at, defD_eq, g_slope_at, e, q1, q2, a1, a2, a3, added2, taken2, lim_eq, e5]
theorem led_step {u1 u2 u3 : D} {m w k t pd q z pl : Nat} {s : Int} {gM gS : D → D → Option D} (gm : gM (dn q) (dn pd) = some (dn z)) (gs : gS (dn k) (dn z) = some (dn pl)) :
    dAsg (tName 11) (dOp gS (dVar 3) (dOp gM (dVar 10) (dVar 8))) [some u3, some (dn m), some (dn w), some (dn k), some u1, some u2, some (dn t), some (dn t), some (dn pd), some (tg1 s), some (dn q), none] =
      some (.nx [some u3, some (dn m), some (dn w), some (dn k), some u1, some u2, some (dn t), some (dn t), some (dn pd), some (tg1 s), some (dn q), some (dn pl)]) := by
  simp [gm, gs]
theorem led_by1 (S : Steps n0 ins F f g) (hn : n0 ≤ n) (hb : n ≤ 500) {m w k : Nat} (hm : m < n0) (hw : w < ins) (hk : k < 1000) :
    ∃ x : Int, p_led_by [MD n ins F, dn m, dn w, dn k] = some (.ok (.tup [dn (it (f w) k m), tg1 x]) [none, none, none, none]) := by
  obtain ⟨L, t, gl, ln, hg, hL, e⟩ := line1 S hn hb hm hw
  obtain ⟨s, e2⟩ := slope1 S hn hb hm hw ln
  have h1 := ln.ht
  by_cases hkL : k < L
  · have hkg : k < gl.length := by omega
    have a1 : atI ((List.range L).map fun i => dn (it (f w) i m)) (k : Int) = some (dn (it (f w) k m)) := atI_range hkL
    have a3 : atI (gl.map tg1) (k : Int) = some (tg1 gl[k]) := PD.atI_nat (by simp [hkg])
    refine ⟨gl[k], ?_⟩
    simp [p_led_by, defD_eq, g_led_by, e, hkL, a1, a3, lim_eq]
  · have hp : 0 < L - t := by omega
    generalize hq : (k - t) / (L - t) = q
    have hq1 : q * (L - t) ≤ k - t := by rw [← hq]; exact Nat.div_mul_le_self _ _
    have hq2 : k - t < (q + 1) * (L - t) := by
      rw [← hq]
      have := Nat.lt_div_mul_add (a := k - t) hp
      rw [Nat.succ_mul]; exact this
    rw [Nat.succ_mul] at hq2
    generalize hz : q * (L - t) = z at hq1 hq2
    have hpl : k - z < L := by omega
    have hpt : t ≤ k - z := by omega
    have hkg : k - z < gl.length := by omega
    have a1 : atI ((List.range L).map fun i => dn (it (f w) i m)) ((k - z : Nat) : Int) = some (dn (it (f w) (k - z) m)) := atI_range hpl
    have a3 : atI (gl.map tg1) ((k - z : Nat) : Int) = some (tg1 gl[k - z]) := PD.atI_nat (by simp [hkg])
    have i1 : ((k : Int) - (t : Int)) / ((L - t : Nat) : Int) = (q : Int) := by
      rw [← hq]
      have : (k : Int) - (t : Int) = ((k - t : Nat) : Int) := by omega
      rw [this]; exact (Int.natCast_ediv _ _).symm
    have i2 : (q : Int) * ((L - t : Nat) : Int) = (z : Int) := by rw [← hz]; simp
    have i3 : (k : Int) - (z : Int) = ((k - z : Nat) : Int) := by omega
    have o1 : okDiv ((k : Int) - (t : Int)) ((L - t : Nat) : Int) = true := by rw [okDiv_eq]; simp; omega
    have hql : q ≤ k := by
      have : q * 1 ≤ q * (L - t) := Nat.mul_le_mul_left q hp
      omega
    have o2 : ∀ s : Int, okMul s (q : Int) = true := fun s => by rw [okMul_eq]; simp; right; omega
    have o3 : okMul (q : Int) ((L - t : Nat) : Int) = true := by rw [okMul_eq]; simp; right; omega
    have tm : p_times [tg1 s, dn q] = some (.ok (tg1 (s * q)) [none, none]) := times1 s q (o2 s)
    have back : it (f w) (k - z) m = it (f w) k m := by
      have := ln.cycs (k - z) q hpt
      rw [hz, show k - z + z = k by omega] at this
      exact this.symm
    refine ⟨gl[k - z] + s * q, ?_⟩
    generalize hgl : gl[k - z] = gk at a3
    rw [back] at a1
    clear back hq2 hq1 hz
    generalize L - t = pd at *
    generalize hpk : k - z = pl at *
    refine (def_ret (d := .tup [dn (it (f w) k m), tg1 (gk + s * q)]) (ρ := [some (MD n ins F), some (dn m), some (dn w), some (dn k), some (.tup ((List.range L).map fun i => dn (it (f w) i m))), some (.tup (gl.map tg1)), some (dn t), some (dn t), some (dn pd), some (tg1 s), some (dn q), some (dn pl)]) rfl ?_).trans ?_
    · refine seq_to (ρ1 := [some (MD n ins F), some (dn m), some (dn w), some (dn k), some (.tup ((List.range L).map fun i => dn (it (f w) i m))), some (.tup (gl.map tg1)), some (dn t), none, none, none, none, none]) (by simp [e]) ?_
      refine seq_to (ρ1 := [some (MD n ins F), some (dn m), some (dn w), some (dn k), some (.tup ((List.range L).map fun i => dn (it (f w) i m))), some (.tup (gl.map tg1)), some (dn t), none, none, none, none, none]) (by simp [hkL]) ?_
      refine seq_to (ρ1 := [some (MD n ins F), some (dn m), some (dn w), some (dn k), some (.tup ((List.range L).map fun i => dn (it (f w) i m))), some (.tup (gl.map tg1)), some (dn t), none, none, none, none, none]) (by simp) ?_
      refine seq_to (ρ1 := [some (MD n ins F), some (dn m), some (dn w), some (dn k), some (.tup ((List.range L).map fun i => dn (it (f w) i m))), some (.tup (gl.map tg1)), some (dn t), some (dn t), some (dn pd), some (tg1 s), none, none]) (by simp [e2]) ?_
      refine seq_to (ρ1 := [some (MD n ins F), some (dn m), some (dn w), some (dn k), some (.tup ((List.range L).map fun i => dn (it (f w) i m))), some (.tup (gl.map tg1)), some (dn t), some (dn t), some (dn pd), some (tg1 s), some (dn q), none]) (by simp [o1, i1]) ?_
      refine seq_to (ρ1 := [some (MD n ins F), some (dn m), some (dn w), some (dn k), some (.tup ((List.range L).map fun i => dn (it (f w) i m))), some (.tup (gl.map tg1)), some (dn t), some (dn t), some (dn pd), some (tg1 s), some (dn q), some (dn pl)]) (by
        exact led_step (by rw [ev_gMul, if_pos o3, i2]) (by rw [ev_gSub, i3])) ?_
      have ad := added2 gk (s * q)
      generalize p_times = pt at tm ⊢
      generalize p_added = pa at ad ⊢
      simp [a1, a3, tm, ad, lim_eq]
    · rfl
end
end L47
end
end
section
set_option Elab.async false
set_option linter.all false
set_option maxRecDepth 100000
noncomputable section
namespace L47
open PD L2 CM
section
variable {n n0 ins : Nat} {F : Nat → Nat → Option (Nat × Int)} {f : Nat → Nat → Nat} {g : Nat → Nat → Int}
theorem ledF_app (f : Nat → Nat → Nat) (a b : List Nat) (w m : Nat) : ledF f (a ++ b) w m = ledF f b (w + a.length) (ledF f a w m) := by
  induction a generalizing w m with
  | nil => rfl
  | cons x r ih => rw [List.cons_append, ledF, ih, ledF, List.length_cons]; congr 1; omega
theorem enumL_dn (l : List Nat) : enumL (l.map dn) = (l.zipIdx).map fun p => D.tup [dn p.2, dn p.1] := by
  unfold enumL
  rw [List.zipIdx_map, List.map_map]
  rfl
theorem ledF_lt (S : Steps n0 ins F f g) : ∀ (v : List Nat) (w m : Nat), w + v.length ≤ ins → m < n0 → ledF f v w m < n0
  | [], _, _, _, h => h
  | a :: r, w, m, hl, h => ledF_lt S r (w + 1) _ (by simp at hl; omega) (it_lt (fun x hx => S.lt w x (by simp at hl; omega) hx) h a)
theorem immL_enum (v : List Nat) : immL (enumL (v.map dn)) = true := by
  rw [enumL_dn]; simp
theorem led1 (S : Steps n0 ins F f g) (hn : n0 ≤ n) (hb : n ≤ 500) {m : Nat} (hm : m < n0) (v : List Nat) (hv : v.length ≤ ins) (hk : ∀ a ∈ v, a < 1000) :
    ∃ x : Int, p_led [MD n ins F, dn m, .tup (v.map dn)] = some (.ok (.tup [dn (ledF f v 0 m), tg1 x]) [none, none, none]) := by
  have hfor := for_mapped (tg := tTupG 2 (tsCons (tName 5) (tsCons (tName 6) (tsNil)))) (g := dSeq (dAsg (tName 7) (dCall p_led_by (dCons (dVar 0) (dCons (dVar 3) (dCons (dVar 5) (dCons (dVar 6) (dNil)))))))
      (dSeq (dIfS (dB (dOp (gIsN false) (dVar 7) (dC .non))) (dRet (dC .non)) (dNil'))
      (dPar 3 4 (dCons (dIx gIxT (dVar 7) (dC (.int 0))) (dCons (dCall p_added (dCons (dVar 4) (dCons (dIx gIxT (dVar 7) (dC (.int 1))) (dNil)))) (dNil))))))
    (deps := []) (ρ0 := [some (MD n ins F), some (dn m), some (.tup (v.map dn)), some (dn m), some (tg1 0), none, none, none]) (φ := fun p : Nat × Nat => D.tup [dn p.2, dn p.1]) (l := v.zipIdx)
    (ρ := [some (MD n ins F), some (dn m), some (.tup (v.map dn)), some (dn m), some (tg1 0), none, none, none])
    (fun done ρ => ∃ (x : Int) (a1 a2 a3 : Option D), ρ = [some (MD n ins F), some (dn m), some (.tup (v.map dn)), some (dn (ledF f (done.map (·.1)) 0 m)), some (tg1 x), a1, a2, a3])
    (fun _ _ _ => rfl) ⟨0, none, none, none, rfl⟩ ?_
  · obtain ⟨ρ', e, x, a1, a2, a3, rfl⟩ := hfor
    refine ⟨x, ?_⟩
    have hz : ∀ (l : List Nat) (k : Nat), (l.zipIdx k).map (·.1) = l := fun l => by
      induction l with
      | nil => intro k; rfl
      | cons a r ih => intro k; simp [List.zipIdx_cons]
    rw [hz] at e
    rw [← enumL_dn] at e
    have e' : dForL _ _ [] [some (MD n ins F), some (dn m), some (.tup (v.map dn)), some (dn m), some (.tup [.int 0]), none, none, none] _ [some (MD n ins F), some (dn m), some (.tup (v.map dn)), some (dn m), some (.tup [.int 0]), none, none, none] = _ := e
    have im := immL_enum v
    simp [p_led, defD_eq, g_led, nothing1, gEnumT, lim_eq, im, e']
  · rintro a ⟨k, w⟩ b ρ hl ⟨x, a1, a2, a3, rfl⟩
    have hw : v.zipIdx[a.length]? = some (k, w) := by rw [hl]; simp
    rw [List.getElem?_zipIdx] at hw
    obtain ⟨k', hk', e1⟩ := Option.map_eq_some_iff.mp hw
    simp at e1
    obtain ⟨rfl, rfl⟩ := e1
    obtain ⟨hlt, hve⟩ := List.getElem?_eq_some_iff.mp hk'
    have hm1 : ledF f (a.map (·.1)) 0 m < n0 := ledF_lt S _ _ _ (by simp; omega) hm
    obtain ⟨y, hy⟩ := led_by1 S hn hb (w := a.length) (k := k') hm1 (by omega) (hk k' (hve ▸ List.getElem_mem _))
    have ad := added2 x y
    have e3 : ledF f ((a ++ [(k', a.length)]).map (·.1)) 0 m = it (f a.length) k' (ledF f (a.map (·.1)) 0 m) := by
      rw [List.map_append, ledF_app]
      simp [ledF]
    refine ⟨_, [some (MD n ins F), some (dn m), some (.tup (v.map dn)), some (dn (it (f a.length) k' (ledF f (a.map (·.1)) 0 m))), some (tg1 (x + y)), some (dn a.length), some (dn k'), some (.tup [dn (it (f a.length) k' (ledF f (a.map (·.1)) 0 m)), tg1 y])], by simp; rfl, .inl ?_, ⟨x + y, _, _, _, by rw [e3]⟩⟩
    generalize ledF f (a.map (·.1)) 0 m = h0 at *
    generalize it (f a.length) k' h0 = h1 at *
    generalize a.length = al at *
    generalize p_led_by = pl at *
    simp [hy, ad, lim_eq]
end
end L47
end
end
section
set_option Elab.async false
set_option linter.all false
set_option maxRecDepth 100000
noncomputable section
namespace L47
open PD L2 CM
section
variable {n n0 ins : Nat} {F : Nat → Nat → Option (Nat × Int)} {f : Nat → Nat → Nat} {g : Nat → Nat → Int}
/-! ### the home input -/
def hN (t L : Nat) : Nat := (t + (L - t) - 1) / (L - t) * (L - t)
structure Lns (n0 ins : Nat) (f : Nat → Nat → Nat) (Lf tf : Nat → Nat) : Prop where
  ln : ∀ w, w < ins → Line (f w) 0 (Lf w) (tf w)
  le : ∀ w, w < ins → Lf w ≤ n0
theorem hN_ge {t L : Nat} (h : t < L) : t ≤ hN t L := by
  unfold hN
  have hp : 0 < L - t := by omega
  have h1 := Nat.div_add_mod (t + (L - t) - 1) (L - t)
  have h2 := Nat.mod_lt (t + (L - t) - 1) hp
  rw [Nat.mul_comm] at h1
  omega
theorem hN_le {t L : Nat} (h : t < L) : hN t L < L := by
  unfold hN
  have h1 := Nat.div_mul_le_self (t + (L - t) - 1) (L - t)
  omega
variable {Lf tf : Nat → Nat}
def homeL (ins : Nat) (Lf tf : Nat → Nat) : List Nat := (List.range ins).map fun w => hN (tf w) (Lf w)
def perL (ins : Nat) (Lf tf : Nat → Nat) : List Nat := (List.range ins).map fun w => Lf w - tf w
theorem homeL_at {w x : Nat} (h : (homeL ins Lf tf)[w]? = some x) : w < ins ∧ x = hN (tf w) (Lf w) := by
  unfold homeL at h
  rw [List.getElem?_map] at h
  obtain ⟨y, h1, h2⟩ := Option.map_eq_some_iff.mp h
  obtain ⟨h3, h4⟩ := List.getElem?_eq_some_iff.mp h1
  simp at h3 h4; subst h4
  exact ⟨h3, h2.symm⟩
theorem perL_at {w x : Nat} (h : (perL ins Lf tf)[w]? = some x) : w < ins ∧ x = Lf w - tf w := by
  unfold perL at h
  rw [List.getElem?_map] at h
  obtain ⟨y, h1, h2⟩ := Option.map_eq_some_iff.mp h
  obtain ⟨h3, h4⟩ := List.getElem?_eq_some_iff.mp h1
  simp at h3 h4; subst h4
  exact ⟨h3, h2.symm⟩
theorem home_of (N : Net n0 ins f) (X : Lns n0 ins f Lf tf) : Home n0 ins f (homeL ins Lf tf) (perL ins Lf tf) where
  hl := by simp [homeL]
  pl := by simp [perL]
  pp := fun w x h => by
    obtain ⟨hw, rfl⟩ := perL_at h
    have := (X.ln w hw).ht; omega
  dvd := fun w x y h1 h2 => by
    obtain ⟨hw, rfl⟩ := homeL_at h1
    obtain ⟨_, rfl⟩ := perL_at h2
    exact ⟨_, Nat.mul_comm _ _⟩
  back := fun w x y h1 h2 m hm => by
    obtain ⟨hw, rfl⟩ := homeL_at h1
    obtain ⟨_, rfl⟩ := perL_at h2
    have l := X.ln w hw
    exact l.back' N hw (hN_ge l.ht) m hm
theorem lns_ex (S : Steps n0 ins F f g) (h0 : 0 < n0) (hb : n0 ≤ 500) : ∃ Lf tf, Lns n0 ins f Lf tf := by
  have h : ∀ w, ∃ L t, w < ins → Line (f w) 0 L t ∧ L ≤ n0 := fun w => by
    by_cases hw : w < ins
    · obtain ⟨L, t, _, a, _, b, _⟩ := line1 S (Nat.le_refl _) hb h0 hw
      exact ⟨L, t, fun _ => ⟨a, b⟩⟩
    · exact ⟨0, 0, fun z => absurd z hw⟩
  obtain ⟨Lf, h⟩ := Classical.axiomOfChoice h
  obtain ⟨tf, h⟩ := Classical.axiomOfChoice h
  exact ⟨Lf, tf, fun w hw => (h w hw).1, fun w hw => (h w hw).2⟩
theorem hcalc {t L : Nat} (h : t < L) (hL : L ≤ 500) {gA gS gM gD : D → D → Option D} (eA : gA (dn t) (dn (L - t)) = some (dn (t + (L - t)))) (eS : gS (dn (t + (L - t))) (.int 1) = some (dn (t + (L - t) - 1))) (eD : gD (dn (t + (L - t) - 1)) (dn (L - t)) = some (dn ((t + (L - t) - 1) / (L - t))))
    (eM : gM (dn ((t + (L - t) - 1) / (L - t))) (dn (L - t)) = some (dn (hN t L))) {M x : D} {l : List D} (hl : l.length < LIM) {i3 i4 : Nat} {r : Rho} (e3 : r[i3]? = some (some (dn t))) (e4 : r[i4]? = some (some (dn (L - t)))) (e1 : r[1]? = some (some (.lst l))) :
    dExp (dMtM gApp 1 (dCons (dOp gM (dOp gD (dOp gS (dOp gA (dVar i3) (dVar i4)) (dC (.int 1))) (dVar i4)) (dVar i4)) (dNil))) r = some (.nx (r.set 1 (some (.lst (l ++ [dn (hN t L)]))))) := by
  simp [e1, e3, e4, eA, eS, eD, eM, hl]
theorem gDiv_nat {a b : Nat} (hb : 0 < b) (h2 : b < 1000) : gDiv (dn a) (dn b) = some (dn (a / b)) := by
  have : okDiv a b = true := by rw [okDiv_eq]; simp; omega
  rw [dn, dn, ev_gDiv, if_pos this]; simp
theorem gMul_nat {a b : Nat} (h2 : b < 1000) : gMul (dn a) (dn b) = some (dn (a * b)) := by
  have : okMul a b = true := by rw [okMul_eq]; simp; omega
  rw [dn, dn, ev_gMul, if_pos this]; simp
theorem hstep1 {t L : Nat} (h : t < L) (hL : L ≤ 500) {l : List D} (hl : l.length < LIM) {i3 i4 : Nat} {r : Rho} (e3 : r[i3]? = some (some (dn t))) (e4 : r[i4]? = some (some (dn (L - t)))) (e1 : r[1]? = some (some (.lst l))) :
    dExp (dMtM gApp 1 (dCons (dOp gMul (dOp gDiv (dOp gSub (dOp gAdd (dVar i3) (dVar i4)) (dC (.int 1))) (dVar i4)) (dVar i4)) (dNil))) r = some (.nx (r.set 1 (some (.lst (l ++ [dn (hN t L)]))))) := by
  refine hcalc (M := .non) (x := .non) h hL ?_ ?_ ?_ ?_ hl e3 e4 e1
  · simp
  · have : ((t + (L - t) : Nat) : Int) - 1 = ((t + (L - t) - 1 : Nat) : Int) := by omega
    rw [dn, ev_gSub, this]
  · exact gDiv_nat (by omega) (by omega)
  · exact gMul_nat (by omega)
theorem _root_.L47.Steps.closed (S : Steps n0 ins F f g) : Closed n0 ins F := fun m hm k hk => by
  unfold nxs at hk
  obtain ⟨w, hw, e⟩ := List.mem_filterMap.mp hk
  have e : Option.map (fun x : Nat × Int => x.1) (F w m) = some k := e
  rw [S.at_ w m (List.mem_range.mp hw) hm] at e
  simp at e; subst e
  exact S.lt w m (List.mem_range.mp hw) hm
theorem home_input1 {c : PySem.Value} (S : Steps n0 ins F f g) (N : Net n0 ins f) (X : Lns n0 ins f Lf tf) (hn : n0 ≤ n) (hb : n ≤ 500) (hi : ins ≤ 100) :
    p_home_input c [MD n ins F] = some (.ok (.tup ((homeL ins Lf tf).map dn)) [none]) := by
  have nd := need_ok (c := c) (F := F) (ins := ins) N.pos hn hb hi S.closed (fun m hm w hw => by rw [S.at_ w m hw hm]; rfl)
  obtain ⟨ρ', e, a2, a3, a4, a5, rfl⟩ := for_mapped (tg := tName 2) (g := dSeq (dAsg (tTupG 3 (tsCons (tName 3) (tsCons (tName 4) (tsCons (tName 5) (tsNil))))) (dCall p_slope_at (dCons (dVar 0) (dCons (dC (.int 0)) (dCons (dVar 2) (dNil))))))
    (dExp (dMtM gApp 1 (dCons (dOp gMul (dOp gDiv (dOp gSub (dOp gAdd (dVar 3) (dVar 4)) (dC (.int 1))) (dVar 4)) (dVar 4)) (dNil)))))
    (deps := []) (ρ0 := [some (MD n ins F), some (.lst []), none, none, none, none]) (φ := dn) (l := List.range ins) (ρ := [some (MD n ins F), some (.lst []), none, none, none, none])
    (fun done ρ => ∃ a2 a3 a4 a5, ρ = [some (MD n ins F), some (.lst ((done.map fun w => hN (tf w) (Lf w)).map dn)), a2, a3, a4, a5]) (fun _ _ _ => rfl) ⟨none, none, none, none, rfl⟩ (by
      rintro a w b ρ hl ⟨a2, a3, a4, a5, rfl⟩
      obtain ⟨h1, hw, h3⟩ := range_split hl
      obtain ⟨x, e2⟩ := slope1 S hn hb N.pos hw (X.ln w hw)
      have l := X.ln w hw
      have st := hstep1 (l := (a.map fun w => hN (tf w) (Lf w)).map dn) (i3 := 3) (i4 := 4) (r := [some (MD n ins F), some (.lst ((a.map fun w => hN (tf w) (Lf w)).map dn)), some (dn w), some (dn (tf w)), some (dn (Lf w - tf w)), some (tg1 x)]) l.ht (Nat.le_trans (X.le w hw) (by omega)) (by simp [lim_eq]; omega) rfl rfl rfl
      refine ⟨_, _, rfl, .inl (seq_to (ρ1 := [some (MD n ins F), some (.lst ((a.map fun w => hN (tf w) (Lf w)).map dn)), some (dn w), some (dn (tf w)), some (dn (Lf w - tf w)), some (tg1 x)]) ?_ st), ⟨some (dn w), some (dn (tf w)), some (dn (Lf w - tf w)), some (tg1 x), by simp⟩⟩
      have e2' : p_slope_at [MD n ins F, .int 0, dn w] = some (.ok (.tup [dn (tf w), dn (Lf w - tf w), tg1 x]) [none, none, none]) := e2
      simp [e2'])
  have gr := range1_nat (n := ins) (by omega)
  simp only [dn] at gr
  simp only [p_home_input, defD_eq, g_home_input]
  simp [nd, gr, e, homeL]
theorem rc_mem (S : Steps n0 ins F f g) {m k : Nat} (hm : m < n0) : k ∈ nxs ins (fun w => F w m) ↔ ∃ w, w < ins ∧ f w m = k := by
  unfold nxs
  rw [List.mem_filterMap]
  constructor
  · rintro ⟨w, hw, e⟩
    have e : Option.map (fun x : Nat × Int => x.1) (F w m) = some k := e
    have hw := List.mem_range.mp hw
    rw [S.at_ w m hw hm] at e
    exact ⟨w, hw, by simpa using e⟩
  · rintro ⟨w, hw, e⟩
    refine ⟨w, List.mem_range.mpr hw, ?_⟩
    show Option.map (fun x : Nat × Int => x.1) (F w m) = some k
    rw [S.at_ w m hw hm, ← e]; rfl
theorem home_mode1 {c : PySem.Value} (S : Steps n0 ins F f g) (N : Net n0 ins f) (X : Lns n0 ins f Lf tf) (hn : n0 ≤ n) (hb : n ≤ 500) (hi : ins ≤ 100) :
    p_home_mode c [MD n ins F] = some (.ok (dn (ledF f (homeL ins Lf tf) 0 0)) [none]) := by
  have e1 := home_input1 (c := c) S N X hn hb hi
  obtain ⟨x, e2⟩ := led1 S hn hb N.pos (homeL ins Lf tf) (by simp [homeL]) (fun a ha => by
    obtain ⟨w, hw, rfl⟩ := List.mem_map.mp ha
    have hw := List.mem_range.mp hw
    have := hN_le (X.ln w hw).ht
    have := X.le w hw
    omega)
  have e2 : p_led [MD n ins F, .int 0, .tup ((homeL ins Lf tf).map dn)] = _ := e2
  simp only [p_home_mode, defD_eq, g_home_mode]
  simp [e1, e2]
end
end L47
end
end
section
set_option Elab.async false
set_option linter.all false
set_option maxRecDepth 100000
noncomputable section
namespace L47
open PD L2 CM
section
theorem gNe_nil (l : List Nat) : gNe (.lst (l.map dn)) (.lst []) = some (.bl (!decide (l = []))) := by
  unfold gNe
  have h1 := (shaped_dns l).2
  have h2 : PySem.SeqAt.shaped (toP (.lst [])) = true := rfl
  rw [h1, h2]
  cases l with
  | nil => rfl
  | cons a r => rfl
variable {n n0 ins : Nat} {F : Nat → Nat → Option (Nat × Int)} {f : Nat → Nat → Nat} {g : Nat → Nat → Int} {Lf tf : Nat → Nat}
theorem row_items (S : Steps n0 ins F f g) {m : Nat} (hm : m < n0) : (List.range ins).map (fun w => stD (F w m)) = (List.range ins).map fun w => D.tup [dn (f w m), tg1 (g w m)] :=
  List.map_congr_left fun w hw => by rw [S.at_ w m (List.mem_range.mp hw) hm, stD_some]
/-- what modes_again finds, unsorted -/
theorem explore (S : Steps n0 ins F f g) (hn : n0 ≤ n) (hb : n ≤ 500) {h : Nat} (hh : h < n0) :
    ∃ (fd : List Nat) (x4 x5 : Option D), dWhile (dB (dOp gNe (dVar 3) (dLst (dNil)))) (dFor [] (tTupG 2 (tsCons (tName 4) (tsCons (tName 5) (tsNil)))) (dIter1 tupI (dIx gIxT (dIx gIxT (dVar 0) (dC (.int 2))) (dMtM gPop 3 dNil))) (dIfS (dB (dOp (gInD true) (dVar 4) (dVar 2))) (dSeq (dPut 2 (dVar 4) (dC (.bl true)))
    (dExp (dMtM gApp 3 (dCons (dVar 4) (dNil))))) (dNil'))) 1000 [some (MD n ins F), some (dn h), some (.dic (kD [h] fun _ => .bl true)), some (.lst [dn h]), none, none] =
      some (.nx [some (MD n ins F), some (dn h), some (.dic (kD fd fun _ => .bl true)), some (.lst []), x4, x5]) ∧ fd.Nodup ∧ ∀ y, y ∈ fd ↔ Rc ins f h y := by
  have key := while_rule (t := dB (dOp gNe (dVar 3) (dLst (dNil)))) (g := dFor [] (tTupG 2 (tsCons (tName 4) (tsCons (tName 5) (tsNil)))) (dIter1 tupI (dIx gIxT (dIx gIxT (dVar 0) (dC (.int 2))) (dMtM gPop 3 dNil))) (dIfS (dB (dOp (gInD true) (dVar 4) (dVar 2))) (dSeq (dPut 2 (dVar 4) (dC (.bl true)))
    (dExp (dMtM gApp 3 (dCons (dVar 4) (dNil))))) (dNil')))
    (fun k ρ => ∃ (fd ln : List Nat) (x4 x5 : Option D), ρ = [some (MD n ins F), some (dn h), some (.dic (kD fd fun _ => .bl true)), some (.lst (ln.map dn)), x4, x5] ∧ fd.Nodup ∧ h ∈ fd ∧ (∀ y ∈ fd, y < n0 ∧ Rc ins f h y) ∧ (∀ y ∈ ln, y ∈ fd) ∧ ln.length ≤ fd.length ∧
      (∀ y ∈ fd, y ∈ ln ∨ ∀ w, w < ins → f w y ∈ fd) ∧ k = 2 * (n0 - fd.length) + ln.length)
    (fun ρ => ∃ (fd : List Nat) (x4 x5 : Option D), ρ = [some (MD n ins F), some (dn h), some (.dic (kD fd fun _ => .bl true)), some (.lst []), x4, x5] ∧ fd.Nodup ∧ h ∈ fd ∧ (∀ y ∈ fd, y < n0 ∧ Rc ins f h y) ∧ (∀ y ∈ fd, ∀ w, w < ins → f w y ∈ fd))
    ?_ 1000 (2 * (n0 - 1) + 1) [some (MD n ins F), some (dn h), some (.dic (kD [h] fun _ => .bl true)), some (.lst [dn h]), none, none] (by omega)
    ⟨[h], [h], none, none, rfl, by simp, by simp, by simpa using ⟨hh, Rc.refl h⟩, by simp, by simp, by simp, by simp⟩
  · obtain ⟨ρ', e, fd, x4, x5, rfl, nd, hin, h1, h2⟩ := key
    refine ⟨fd, x4, x5, e, nd, fun y => ⟨fun hy => (h1 y hy).2, fun r => ?_⟩⟩
    induction r with
    | refl => exact hin
    | tail _ hw ih => exact h2 _ ih _ hw
  · rintro k ρ ⟨fd, ln, x4, x5, rfl, nd, hin, hlt, hsub, hll, hcl, rfl⟩
    refine ⟨!decide (ln = []), _, true, by simp [gNe_nil]; rfl, fun hb => ?_, fun hb => ?_⟩
    · have hne : ln ≠ [] := by simpa using hb
      obtain ⟨l0, m, rfl⟩ : ∃ r x, ln = r ++ [x] := ⟨ln.dropLast, ln.getLast hne, (List.dropLast_concat_getLast hne).symm⟩
      have hmf : m ∈ fd := hsub m (by simp)
      obtain ⟨hm, hrc⟩ := hlt m hmf
      have q1 : (((l0 ++ [m]).map dn).getLast?) = some (dn m) := by simp
      have q2 : (((l0 ++ [m]).map dn).dropLast) = l0.map dn := by simp
      obtain ⟨ρ', e, fd', r, x4', x5', rfl, rfl, nd', hlt', hdone⟩ := for_mapped (tg := tTupG 2 (tsCons (tName 4) (tsCons (tName 5) (tsNil)))) (g := dIfS (dB (dOp (gInD true) (dVar 4) (dVar 2))) (dSeq (dPut 2 (dVar 4) (dC (.bl true)))
          (dExp (dMtM gApp 3 (dCons (dVar 4) (dNil))))) (dNil')) (deps := []) (ρ0 := [some (MD n ins F), some (dn h), some (.dic (kD fd fun _ => .bl true)), some (.lst (l0.map dn)), x4, x5]) (φ := fun w => D.tup [dn (f w m), tg1 (g w m)]) (l := List.range ins)
          (ρ := [some (MD n ins F), some (dn h), some (.dic (kD fd fun _ => .bl true)), some (.lst (l0.map dn)), x4, x5])
        (fun done ρ => ∃ (fd' r : List Nat) (x4 x5 : Option D), fd' = fd ++ r ∧ ρ = [some (MD n ins F), some (dn h), some (.dic (kD fd' fun _ => .bl true)), some (.lst ((l0 ++ r).map dn)), x4, x5] ∧ fd'.Nodup ∧ (∀ y ∈ fd', y < n0 ∧ Rc ins f h y) ∧ ∀ w ∈ done, f w m ∈ fd')
        (fun _ _ _ => rfl) ⟨fd, [], x4, x5, by simp, by simp, nd, hlt, by simp⟩ (by
          rintro a w b ρ hl ⟨fd', r, x4, x5, rfl, rfl, nd', hlt', hdone⟩
          obtain ⟨ha, hw, -⟩ := range_split hl
          have hl' := nodup_len nd' fun y hy => (hlt' y hy).1
          by_cases hmem : f w m ∈ fd ++ r
          · refine ⟨_, _, rfl, .inl ?_, ⟨fd ++ r, r, some (dn (f w m)), some (tg1 (g w m)), rfl, rfl, nd', hlt', ?_⟩⟩
            · simp only [List.mem_append] at hmem
              simp [getD_kD, hmem]
            · intro v hv
              rcases List.mem_append.mp hv with z | z
              · exact hdone v z
              · rw [List.mem_singleton.mp z]; exact hmem
          · have p := putD_kD (v := fun _ => D.bl true) (v' := fun _ => .bl true) (d := .bl true) hmem (fun _ _ => rfl) rfl
            have hfl : (fd ++ r).length < LIM := by rw [lim_eq]; omega
            have hll2 : (l0 ++ r).length < LIM := by
              rw [lim_eq]
              simp only [List.length_append, List.length_cons, List.length_nil] at hl' hll ⊢
              omega
            simp only [List.length_append] at hfl hll2
            refine ⟨_, [some (MD n ins F), some (dn h), some (.dic (kD (fd ++ r ++ [f w m]) fun _ => .bl true)), some (.lst ((l0 ++ (r ++ [f w m])).map dn)), some (dn (f w m)), some (tg1 (g w m))], rfl, .inl ?_, ⟨fd ++ r ++ [f w m], r ++ [f w m], _, _, by simp, rfl, ?_, ?_, ?_⟩⟩
            · simp only [dn] at p
              simp [getD_kD, hmem, p, hfl, hll2]
            · have := addN_nodup (j := f w m) nd'
              rwa [addN, if_neg hmem] at this
            · intro y hy
              rcases List.mem_append.mp hy with z | z
              · exact hlt' y z
              · rw [List.mem_singleton.mp z]; exact ⟨S.lt w m hw hm, .tail hrc hw⟩
            · intro v hv
              rcases List.mem_append.mp hv with z | z
              · exact List.mem_append_left _ (hdone v z)
              · rw [List.mem_singleton.mp z]; simp)
      have hl' := nodup_len nd' fun y hy => (hlt' y hy).1
      have hl0 := nodup_len nd fun y hy => (hlt y hy).1
      refine ⟨_, ?_, 2 * (n0 - (fd ++ r).length) + (l0 ++ r).length, ?_, fd ++ r, l0 ++ r, x4', x5', rfl, nd', by simp [hin], hlt', ?_, ?_, ?_, rfl⟩
      · have hrow : atI ((List.range n).map fun m => rwD ins fun w => F w m) (m : Int) = some (rwD ins fun w => F w m) := atI_range (by omega)
        have e' := e
        rw [← row_items S hm] at e'
        simp [-List.map_append, q1, q2, hrow]
        exact e'
      · simp only [List.length_append, List.length_cons, List.length_nil] at hl' hll ⊢
        omega
      · intro y hy
        rcases List.mem_append.mp hy with z | z
        · exact List.mem_append_left _ (hsub y (by simp [z]))
        · exact List.mem_append_right _ z
      · simp only [List.length_append, List.length_cons, List.length_nil] at hl' hll ⊢
        omega
      · intro y hy
        rcases List.mem_append.mp hy with z | z
        · rcases hcl y z with h1 | h1
          · rcases List.mem_append.mp h1 with h2 | h2
            · exact .inl (List.mem_append_left _ h2)
            · rw [List.mem_singleton.mp h2]
              exact .inr fun w hw => hdone w (List.mem_range.mpr hw)
          · exact .inr fun w hw => List.mem_append_left _ (h1 w hw)
        · exact .inl (List.mem_append_right _ z)
    · have hne : ln = [] := by simpa using hb
      subst hne
      exact ⟨fd, x4, x5, rfl, nd, hin, hlt, fun y hy w hw => ((hcl y hy).resolve_left (by simp)) w hw⟩
theorem lot_of {n0 : Nat} {P : Nat → Bool} {l : List Nat} (nd : l.Nodup) (h : ∀ y, y ∈ l ↔ (y < n0 ∧ P y = true)) : srt (l.map Int.ofNat) = ((List.range n0).filter P).map Int.ofNat := by
  letI : Tbs := ⟨[]⟩
  symm
  apply srt_of
  · apply List.Perm.map
    rw [List.perm_ext_iff_of_nodup (List.Pairwise.filter _ List.nodup_range) nd]
    intro a
    rw [h a]; simp
  · have h1 : ((List.range n0).filter P).Pairwise (· < ·) := List.Pairwise.filter _ List.pairwise_lt_range
    rw [List.pairwise_map]
    exact h1.imp fun h => by
      have := h
      simp only [Int.ofNat_eq_natCast]; omega
open Classical in
/-- the modes that come again, ascending -/
def lotN (n0 ins : Nat) (f : Nat → Nat → Nat) : List Nat := (List.range n0).filter fun m => decide (Again n0 ins f m)
theorem lot_mem {m : Nat} : m ∈ lotN n0 ins f ↔ Again n0 ins f m := by
  unfold lotN
  rw [List.mem_filter]
  simp
  exact fun h => h.1
theorem modes_again1 {c : PySem.Value} (S : Steps n0 ins F f g) (N : Net n0 ins f) (X : Lns n0 ins f Lf tf) (hn : n0 ≤ n) (hb : n ≤ 500) (hb0 : n0 < 64) (hi : ins ≤ 100) :
    p_modes_again c [MD n ins F] = some (.ok (.tup ((lotN n0 ins f).map dn)) [none]) := by
  have e1 := home_mode1 (c := c) S N X hn hb hi
  have H := home_of N X
  have hh : ledF f (homeL ins Lf tf) 0 0 < n0 := (Cm.led N _ 0 (by rw [H.hl]; omega)).lt 0 N.pos
  have hmem := fun m (hm : m < n0) => H.from_ N hm
  generalize ledF f (homeL ins Lf tf) 0 0 = h at *
  obtain ⟨fd, x4, x5, e, nd, hfd⟩ := explore S hn hb hh
  have hs : srt (fd.map Int.ofNat) = (lotN n0 ins f).map Int.ofNat := by
    classical
    unfold lotN
    refine lot_of nd fun y => ?_
    rw [hfd, decide_eq_true_iff]
    constructor
    · intro r
      have := N.rc_lt hh r
      exact ⟨this, (hmem y this).mpr r⟩
    · rintro ⟨h1, h2⟩
      exact (hmem y h1).mp h2
  have hfl : fd.length < 64 := Nat.lt_of_le_of_lt (nodup_len nd fun y hy => N.rc_lt hh ((hfd y).mp hy)) hb0
  have gs : gSortD [.dic (kD fd fun _ => .bl true)] = some (.lst ((lotN n0 ins f).map dn)) := by
    unfold gSortD
    simp only [keysI_kD, Option.bind_some, List.length_map, hfl, if_true, hs, List.map_map]
    rfl
  have e' : dWhile _ _ 1000 [some (MD n ins F), some (.int (h : Int)), some (.dic [(.inl (h : Int), .bl true)]), some (.lst [.int (h : Int)]), none, none] = _ := e
  simp only [p_modes_again, defD_eq, g_modes_again]
  simp [e1, e', gs, lim_eq]
end
end L47
end
end
section
set_option Elab.async false
set_option linter.all false
set_option maxRecDepth 100000
noncomputable section
namespace L47
open PD L2 CM
section
variable {n ins : Nat} {F : Nat → Nat → Option (Nat × Int)} {f : Nat → Nat → Nat} {g : Nat → Nat → Int} {Lf tf : Nat → Nat}
theorem law_modes1 (S : Steps n ins F f g) (hb : n ≤ 500) {h : Nat} (hh : h < n) :
    ∃ (fd : List Nat), p__law_modes [MD n ins F, dn h] = some (.ok (.lst (fd.map dn)) [none, none]) ∧ fd.Nodup ∧ ∀ y, y ∈ fd ↔ Rc ins f h y := by
  have key := while_rule (t := dB (dOp gLt (dVar 3) (dCB gLen (dCons (dVar 2) (dNil))))) (g := dSeq (dFor [] (tName 4) (dIter1 tupI (dIx gIxT (dIx gIxT (dVar 0) (dC (.int 2))) (dIx gIxL (dVar 2) (dVar 3)))) (dIfS (dAnd (dB (dOp (gIsN true) (dVar 4) (dC .non))) (dB (dOp (gInN true) (dIx gIxT (dVar 4) (dC (.int 0))) (dVar 2)))) (dExp (dMtM gApp 2 (dCons (dIx gIxT (dVar 4) (dC (.int 0))) (dNil)))) (dNil')))
    (dAsg (tName 3) (dOp gAdd (dVar 3) (dC (.int 1)))))
    (fun m ρ => ∃ (fd : List Nat) (k : Nat) (x4 : Option D), ρ = [some (MD n ins F), some (dn h), some (.lst (fd.map dn)), some (dn k), x4] ∧ fd.Nodup ∧ h ∈ fd ∧ (∀ y ∈ fd, y < n ∧ Rc ins f h y) ∧ k ≤ fd.length ∧ (∀ i y, i < k → fd[i]? = some y → ∀ w, w < ins → f w y ∈ fd) ∧ m = n - k)
    (fun ρ => ∃ (fd : List Nat) (k : Nat) (x4 : Option D), ρ = [some (MD n ins F), some (dn h), some (.lst (fd.map dn)), some (dn k), x4] ∧ fd.Nodup ∧ h ∈ fd ∧ (∀ y ∈ fd, y < n ∧ Rc ins f h y) ∧ (∀ y ∈ fd, ∀ w, w < ins → f w y ∈ fd))
    ?_ 1000 n [some (MD n ins F), some (dn h), some (.lst [dn h]), some (dn 0), none] (by omega)
    ⟨[h], 0, none, rfl, by simp, by simp, by simpa using ⟨hh, Rc.refl h⟩, by simp, fun i y hi => by omega, by simp⟩
  · obtain ⟨ρ', e, fd, k, x4, rfl, nd, hin, h1, h2⟩ := key
    refine ⟨fd, ?_, nd, fun y => ⟨fun hy => (h1 y hy).2, fun r => ?_⟩⟩
    · have e' : dWhile _ _ 1000 [some (MD n ins F), some (.int (h : Int)), some (.lst [.int (h : Int)]), some (.int 0), none] = _ := e
      simp only [p__law_modes, defD_eq, g__law_modes]
      simp [e', lim_eq]
    · induction r with
      | refl => exact hin
      | tail _ hw ih => exact h2 _ ih _ hw
  · rintro m ρ ⟨fd, k, x4, rfl, nd, hin, hlt, hk, hcl, rfl⟩
    have hl0 := nodup_len nd fun y hy => (hlt y hy).1
    refine ⟨decide (k < fd.length), [some (MD n ins F), some (dn h), some (.lst (fd.map dn)), some (dn k), x4], true, by simp [dn], fun hb => ?_, fun hb => ?_⟩
    · have hkf : k < fd.length := by simpa using hb
      obtain ⟨hm, hrc⟩ := hlt fd[k] (List.getElem_mem _)
      have hfk : fd[k]? = some fd[k] := List.getElem?_eq_getElem hkf
      generalize fd[k] = m at *
      obtain ⟨ρ', e, r, x4', rfl, nd', hlt', hdone⟩ := for_mapped (tg := tName 4) (g := dIfS (dAnd (dB (dOp (gIsN true) (dVar 4) (dC .non))) (dB (dOp (gInN true) (dIx gIxT (dVar 4) (dC (.int 0))) (dVar 2)))) (dExp (dMtM gApp 2 (dCons (dIx gIxT (dVar 4) (dC (.int 0))) (dNil)))) (dNil'))
          (deps := []) (ρ0 := [some (MD n ins F), some (dn h), some (.lst (fd.map dn)), some (dn k), x4]) (φ := fun w => D.tup [dn (f w m), tg1 (g w m)]) (l := List.range ins)
          (ρ := [some (MD n ins F), some (dn h), some (.lst (fd.map dn)), some (dn k), x4])
        (fun done ρ => ∃ (r : List Nat) (x4 : Option D), ρ = [some (MD n ins F), some (dn h), some (.lst ((fd ++ r).map dn)), some (dn k), x4] ∧ (fd ++ r).Nodup ∧ (∀ y ∈ fd ++ r, y < n ∧ Rc ins f h y) ∧ ∀ w ∈ done, f w m ∈ fd ++ r)
        (fun _ _ _ => rfl) ⟨[], x4, by simp, by simpa using nd, by simpa using hlt, by simp⟩ (by
          rintro a w b ρ hl ⟨r, x4, rfl, nd', hlt', hdone⟩
          obtain ⟨ha, hw, -⟩ := range_split hl
          have hl' := nodup_len nd' fun y hy => (hlt' y hy).1
          have gin := (gInN_dn true (f w m) (fd ++ r)).1
          simp only [dn] at gin
          by_cases hmem : f w m ∈ fd ++ r
          · refine ⟨_, _, rfl, .inl ?_, ⟨r, some (.tup [dn (f w m), tg1 (g w m)]), rfl, nd', hlt', ?_⟩⟩
            · rw [if_pos trivial, decide_eq_true hmem] at gin
              simp [-List.map_append, gin]
            · intro v hv
              rcases List.mem_append.mp hv with z | z
              · exact hdone v z
              · rw [List.mem_singleton.mp z]; exact hmem
          · have hfl : (fd ++ r).length < LIM := by rw [lim_eq]; omega
            refine ⟨_, [some (MD n ins F), some (dn h), some (.lst ((fd ++ (r ++ [f w m])).map dn)), some (dn k), some (.tup [dn (f w m), tg1 (g w m)])], rfl, .inl ?_, ⟨r ++ [f w m], _, rfl, ?_, ?_, ?_⟩⟩
            · rw [if_pos trivial, decide_eq_false hmem] at gin
              have el : (fd ++ (r ++ [f w m])).map dn = (fd ++ r).map dn ++ [dn (f w m)] := by simp
              rw [el]
              have hfl2 : ((fd ++ r).map dn).length < LIM := by simpa using hfl
              simp only [List.length_map] at hfl2
              simp [-List.map_append, -List.length_append, gin, hfl2]
            · have := addN_nodup (j := f w m) nd'
              rw [addN, if_neg hmem] at this
              rwa [← List.append_assoc]
            · intro y hy
              rw [← List.append_assoc] at hy
              rcases List.mem_append.mp hy with z | z
              · exact hlt' y z
              · rw [List.mem_singleton.mp z]; exact ⟨S.lt w m hw hm, .tail hrc hw⟩
            · intro v hv
              rw [← List.append_assoc]
              rcases List.mem_append.mp hv with z | z
              · exact List.mem_append_left _ (hdone v z)
              · rw [List.mem_singleton.mp z]; simp)
      refine ⟨[some (MD n ins F), some (dn h), some (.lst ((fd ++ r).map dn)), some (dn (k + 1)), x4'], ?_, n - (k + 1), by omega, fd ++ r, k + 1, x4', rfl, nd', by simp [hin], hlt', by simp; omega, ?_, rfl⟩
      · have ef : atI (fd.map dn) (k : Int) = some (dn m) := PD.atI_nat (by simp [hfk])
        have hrow : atI ((List.range n).map fun m => rwD ins fun w => F w m) (m : Int) = some (rwD ins fun w => F w m) := atI_range hm
        have e' := e
        rw [← row_items S hm] at e'
        refine seq_to (ρ1 := [some (MD n ins F), some (dn h), some (.lst ((fd ++ r).map dn)), some (dn k), x4']) ?_ ?_
        · simp [-List.map_append, ef, hrow]
          exact e'
        · simp
      · intro i y hi hy w hw
        by_cases hik : i < k
        · rw [List.getElem?_append_left (by omega)] at hy
          exact List.mem_append_left _ (hcl i y hik hy w hw)
        · have : i = k := by omega
          subst this
          rw [List.getElem?_append_left hkf, hfk] at hy
          rw [← Option.some.inj hy]
          exact hdone w (List.mem_range.mpr hw)
    · have hne : ¬ k < fd.length := by simpa using hb
      refine ⟨fd, k, x4, rfl, nd, hin, hlt, fun y hy w hw => ?_⟩
      obtain ⟨i, hi, rfl⟩ := List.getElem_of_mem hy
      exact hcl i _ (by omega) (List.getElem?_eq_getElem hi) w hw
end
end L47
end
end
section
set_option Elab.async false
set_option linter.all false
set_option maxRecDepth 100000
noncomputable section
namespace PD
open L2
/-- for over a mapped list, with a return on the way -/
theorem for_exit {α : Type} {tg : D → Rho → Option Rho} {g : Sv} {deps : List Nat} {ρ0 : Rho} {φ : α → D} (I : List α → Rho → Prop) (Q : D → Rho → Prop) (hd : ∀ l ρ, I l ρ → depsOk deps ρ0 ρ = true) :
    ∀ (todo done : List α) (ρ : Rho), (∀ a x b ρ, done ++ todo = a ++ x :: b → I a ρ → ∃ ρ1, tg (φ x) ρ = some ρ1 ∧ ((∃ ρ2, (g ρ1 = some (.nx ρ2) ∨ g ρ1 = some (.ct ρ2)) ∧ I (a ++ [x]) ρ2) ∨ ∃ d ρ2, g ρ1 = some (.ret d ρ2) ∧ Q d ρ2)) →
      I done ρ → (∃ ρ', dForL tg g deps ρ0 (todo.map φ) ρ = some (.nx ρ') ∧ I (done ++ todo) ρ') ∨ ∃ d ρ', dForL tg g deps ρ0 (todo.map φ) ρ = some (.ret d ρ') ∧ Q d ρ' := by
  intro todo
  induction todo with
  | nil => intro done ρ _ hI; exact .inl ⟨ρ, by simp [dForL, hd _ _ hI], by simpa using hI⟩
  | cons d r ih =>
    intro done ρ step hI
    obtain ⟨ρ1, e1, e2⟩ := step done d r ρ rfl hI
    rcases e2 with ⟨ρ2, e2, hI2⟩ | ⟨v, ρ2, e2, q⟩
    · rcases ih (done ++ [d]) ρ2 (fun a x b ρ h => step a x b ρ (by simpa using h)) hI2 with ⟨ρ', e3, q⟩ | ⟨v, ρ', e3, q⟩
      · refine .inl ⟨ρ', ?_, by simpa using q⟩
        rcases e2 with e2 | e2 <;> simp [dForL, hd _ _ hI, e1, e2, e3]
      · refine .inr ⟨v, ρ', ?_, q⟩
        rcases e2 with e2 | e2 <;> simp [dForL, hd _ _ hI, e1, e2, e3]
    · exact .inr ⟨v, ρ2, by simp [dForL, hd _ _ hI, e1, e2], q⟩
theorem findP_dn {m : Nat} : ∀ {l : List Nat} {i k : Nat}, l[i]? = some m → (∀ j, j < i → l[j]? ≠ some m) → findP (toP (dn m)) (toPL (l.map dn)) k = some (k + i)
  | [], i, k, h, _ => by simp at h
  | a :: r, 0, k, h, _ => by
    have e : a = m := by simpa using h
    subst e
    have : PySem.PyData.eqv (toP (dn a)) (toP (dn a)) = true := by show (((a : Int)) == (a : Int)) = true; simp
    rw [List.map_cons, toPL, findP, if_pos this, Nat.add_zero]
  | a :: r, i + 1, k, h, h2 => by
    have hne : a ≠ m := fun e => h2 0 (by omega) (by simp [e])
    have : ¬ PySem.PyData.eqv (toP (dn a)) (toP (dn m)) = true := by
      show ¬ (((a : Int)) == (m : Int)) = true
      simp; exact fun e => hne (Int.ofNat.inj e)
    rw [List.map_cons, toPL, findP, if_neg this, findP_dn (i := i) (by simpa using h) (fun j hj => by simpa using h2 (j + 1) (by omega))]
    congr 1; omega
theorem index_dn {m i : Nat} {l : List Nat} (h : l[i]? = some m) (h2 : ∀ j, j < i → l[j]? ≠ some m) : gIndex (l.map dn) [dn m] = some (dn i, l.map dn) := by
  unfold gIndex
  simp only [(shaped_dns l).2, shaped_dn, findP_dn h h2, Bool.and_self, if_true, Option.map_some, Nat.zero_add]
end PD
namespace L47
open PD L2 CM
section
variable {n ins : Nat} {F : Nat → Nat → Option (Nat × Int)} {f : Nat → Nat → Nat} {g : Nat → Nat → Int} {Lf tf : Nat → Nat}
theorem law_line1 (S : Steps n ins F f g) (hb : n ≤ 500) {m w L t : Nat} (hm : m < n) (hw : w < ins) (ln : Line (f w) m L t) :
    p__law_line [MD n ins F, dn m, dn w] = some (.ok (.tup [dn t, dn (L - t)]) [none, none, none]) := by
  have hlt : ∀ i, it (f w) i m < n := it_lt (fun x hx => S.lt w x hw hx) hm
  have key := for_exit (tg := tName 4) (g := dSeq (dAsg (tName 5) (dIx gIxT (dIx gIxT (dIx gIxT (dIx gIxT (dVar 0) (dC (.int 2))) (dIx gIxL (dVar 3) (d1 gNeg (dC (.int 1))))) (dVar 2)) (dC (.int 0))))
    (dSeq (dIfS (dB (dOp (gInN false) (dVar 5) (dVar 3))) (dRet (dTup (dCons (dMtM gIndex 3 (dCons (dVar 5) (dNil))) (dCons (dOp gSub (dCB gLen (dCons (dVar 3) (dNil))) (dMtM gIndex 3 (dCons (dVar 5) (dNil)))) (dNil))))) (dNil'))
    (dExp (dMtM gApp 3 (dCons (dVar 5) (dNil))))))
    (deps := []) (ρ0 := [some (MD n ins F), some (dn m), some (dn w), some (.lst [dn m]), none, none]) (φ := dn)
    (fun done ρ => ∃ x4 x5, ρ = [some (MD n ins F), some (dn m), some (dn w), some (.lst (((List.range (done.length + 1)).map fun i => it (f w) i m).map dn)), x4, x5] ∧ (∀ i j, i < j → j < done.length + 1 → it (f w) i m ≠ it (f w) j m))
    (fun d ρ => ∃ L' t', Line (f w) m L' t' ∧ d = .tup [dn t', dn (L' - t')] ∧ ∃ r1, ρ = [some (MD n ins F), some (dn m), some (dn w)] ++ r1)
    (fun _ _ _ => rfl) (List.range (n + 1)) [] [some (MD n ins F), some (dn m), some (dn w), some (.lst [dn m]), none, none] (by
      rintro a k b ρ hl ⟨x4, x5, rfl, hap⟩
      obtain ⟨ha, hk, -⟩ := range_split hl
      have ha2 : (a ++ [k]).length = k + 1 := by rw [List.length_append, ha]; rfl
      rw [ha] at hap ⊢
      rw [ha2]
      generalize hml : ((List.range (k + 1)).map fun i => it (f w) i m) = ml at *
      have hget : ∀ i, i < k + 1 → ml[i]? = some (it (f w) i m) := fun i hi => by rw [← hml]; simp [hi]
      have hlen : ml.length = k + 1 := by rw [← hml]; simp
      have hmem : ∀ y, y ∈ ml ↔ ∃ i, i < k + 1 ∧ it (f w) i m = y := fun y => by rw [← hml]; simp [List.mem_map]
      have a1 : atI (ml.map dn) (-1) = some (dn (it (f w) k m)) := PD.atI_last (by rw [List.getLast?_map, List.getLast?_eq_getElem?, hlen, show k + 1 - 1 = k by omega, hget k (by omega)]; rfl)
      obtain ⟨q1, q2⟩ := hstep S (Nat.le_refl n) hw (hlt k)
      have e1 : f w (it (f w) k m) = it (f w) (k + 1) m := rfl
      rw [e1] at q2
      have gin := (gInN_dn false (it (f w) (k + 1) m) ml).1
      simp only [dn, Bool.false_eq_true, if_false] at gin
      generalize hlate : it (f w) (k + 1) m = late at *
      refine ⟨_, rfl, ?_⟩
      by_cases hin : late ∈ ml
      · obtain ⟨t', ht', e2⟩ := (hmem _).mp hin
        have ix := index_dn (l := ml) (i := t') (m := late) (by rw [hget t' ht', e2]) (fun j hj => by
          rw [hget j (by omega)]
          intro z
          exact hap j t' hj ht' ((Option.some.inj z).trans e2.symm))
        simp only [dn] at ix
        rw [decide_eq_true hin] at gin
        have e5 : ((k : Int) + 1 - (t' : Int)) = ((k + 1 - t' : Nat) : Int) := by omega
        refine .inr ⟨.tup [dn t', dn (k + 1 - t')], [some (MD n ins F), some (dn m), some (dn w), some (.lst (ml.map dn)), some (dn k), some (dn late)], ?_, k + 1, t', ⟨ht', hap, by rw [hlate, e2]⟩, rfl, _, rfl⟩
        simp [a1, q1, q2, gin, ix, hlen, lim_eq, e5]
      · rw [decide_eq_false hin] at gin
        refine .inl ⟨[some (MD n ins F), some (dn m), some (dn w), some (.lst ((ml ++ [late]).map dn)), some (dn k), some (dn late)], .inl ?_, some (dn k), some (dn late), ?_, ?_⟩
        · have hll : ml.length < LIM := by rw [lim_eq]; omega
          rw [hlen] at hll
          simp [a1, q1, q2, gin, hlen, hll]
        · have : (List.range ((a ++ [k]).length + 1)).map (fun i => it (f w) i m) = ml ++ [late] := by
            rw [ha2, List.range_succ, List.map_append, hml, List.map_singleton, hlate]
          rw [← ha2, this]
        · intro i j hij hj
          by_cases hjk : j = k + 1
          · subst hjk
            rw [hlate]
            exact fun e => hin ((hmem _).mpr ⟨i, by omega, e⟩)
          · exact hap i j hij (by omega)) ⟨none, none, rfl, fun i j h1 h2 => by simp at h2; omega⟩
  rcases key with ⟨ρ', e, x4, x5, rfl, hap⟩ | ⟨d, ρ', e, L', t', ln', rfl, r1, rfl⟩
  · exfalso
    have nd : ((List.range (n + 2)).map fun i => it (f w) i m).Nodup := by
      rw [List.Nodup, List.pairwise_iff_getElem]
      intro i j hi hj hij
      simp at hj
      have := hap i j hij (by simp; omega)
      simpa using this
    have := nodup_len nd fun y hy => by
      obtain ⟨i, _, rfl⟩ := List.mem_map.mp hy
      exact hlt i
    simp at this
    omega
  · obtain ⟨rfl, rfl⟩ := ln.uniq ln'
    have e' : dForL _ _ [] [some (MD n ins F), some (dn m), some (dn w), some (.lst [dn m]), none, none] ((List.range (n + 1)).map dn) [some (MD n ins F), some (dn m), some (dn w), some (.lst [dn m]), none, none] = _ := e
    have gr := range1_nat (n := n + 1) (by omega)
    have gr' : gRange1 [.int ((n : Int) + 1)] = some ((List.range (n + 1)).map dn) := gr
    have im : immL ((List.range (n + 1)).map dn) = true := by simp
    simp only [p__law_line, defD_eq, g__law_line]
    simp [lim_eq, gr', e']
theorem law_home1 (S : Steps n ins F f g) (N : Net n ins f) (X : Lns n ins f Lf tf) (hb : n ≤ 500) (hi : ins ≤ 100) :
    p__law_home [MD n ins F] = some (.ok (.tup ((homeL ins Lf tf).map dn)) [none]) := by
  obtain ⟨ρ', e, a2, a3, a4, rfl⟩ := for_mapped (tg := tName 2) (g := dSeq (dAsg (tTupG 2 (tsCons (tName 3) (tsCons (tName 4) (tsNil)))) (dCall p__law_line (dCons (dVar 0) (dCons (dC (.int 0)) (dCons (dVar 2) (dNil))))))
    (dExp (dMtM gApp 1 (dCons (dOp gMul (dOp gDiv (dOp gSub (dOp gAdd (dVar 3) (dVar 4)) (dC (.int 1))) (dVar 4)) (dVar 4)) (dNil)))))
    (deps := []) (ρ0 := [some (MD n ins F), some (.lst []), none, none, none]) (φ := dn) (l := List.range ins) (ρ := [some (MD n ins F), some (.lst []), none, none, none])
    (fun done ρ => ∃ a2 a3 a4, ρ = [some (MD n ins F), some (.lst ((done.map fun w => hN (tf w) (Lf w)).map dn)), a2, a3, a4]) (fun _ _ _ => rfl) ⟨none, none, none, rfl⟩ (by
      rintro a w b ρ hl ⟨a2, a3, a4, rfl⟩
      obtain ⟨h1, hw, h3⟩ := range_split hl
      have e2 := law_line1 S hb N.pos hw (X.ln w hw)
      have l := X.ln w hw
      have st := hstep1 (l := (a.map fun w => hN (tf w) (Lf w)).map dn) (i3 := 3) (i4 := 4) (r := [some (MD n ins F), some (.lst ((a.map fun w => hN (tf w) (Lf w)).map dn)), some (dn w), some (dn (tf w)), some (dn (Lf w - tf w))]) l.ht (Nat.le_trans (X.le w hw) (by omega)) (by simp [lim_eq]; omega) rfl rfl rfl
      refine ⟨_, _, rfl, .inl (seq_to (ρ1 := [some (MD n ins F), some (.lst ((a.map fun w => hN (tf w) (Lf w)).map dn)), some (dn w), some (dn (tf w)), some (dn (Lf w - tf w))]) ?_ st), ⟨some (dn w), some (dn (tf w)), some (dn (Lf w - tf w)), by simp⟩⟩
      have e2' : p__law_line [MD n ins F, .int 0, dn w] = some (.ok (.tup [dn (tf w), dn (Lf w - tf w)]) [none, none, none]) := e2
      simp [e2'])
  have gr := range1_nat (n := ins) (by omega)
  simp only [dn] at gr
  simp only [p__law_home, defD_eq, g__law_home]
  simp [gr, e, homeL, lim_eq]
theorem law_led1 (S : Steps n ins F f g) {m : Nat} (hm : m < n) (v : List Nat) (hv : v.length ≤ ins) (hk : ∀ a ∈ v, a < 1000) :
    p__law_led [MD n ins F, dn m, .tup (v.map dn)] = some (.ok (dn (ledF f v 0 m)) [none, none, none]) := by
  have hfor := for_mapped (tg := tTupG 2 (tsCons (tName 3) (tsCons (tName 4) (tsNil)))) (g := dFor [] (tName 5) (dIterL gRange1 (dCons (dVar 4) (dNil))) (dAsg (tName 1) (dIx gIxT (dIx gIxT (dIx gIxT (dIx gIxT (dVar 0) (dC (.int 2))) (dVar 1)) (dVar 3)) (dC (.int 0)))))
    (deps := []) (ρ0 := [some (MD n ins F), some (dn m), some (.tup (v.map dn)), none, none, none]) (φ := fun p : Nat × Nat => D.tup [dn p.2, dn p.1]) (l := v.zipIdx)
    (ρ := [some (MD n ins F), some (dn m), some (.tup (v.map dn)), none, none, none])
    (fun done ρ => ∃ (a1 a2 a3 : Option D), ρ = [some (MD n ins F), some (dn (ledF f (done.map (·.1)) 0 m)), some (.tup (v.map dn)), a1, a2, a3])
    (fun _ _ _ => rfl) ⟨none, none, none, rfl⟩ ?_
  · obtain ⟨ρ', e, a1, a2, a3, rfl⟩ := hfor
    have hz : ∀ (l : List Nat) (k : Nat), (l.zipIdx k).map (·.1) = l := fun l => by
      induction l with
      | nil => intro k; rfl
      | cons a r ih => intro k; simp [List.zipIdx_cons]
    rw [hz] at e
    rw [← enumL_dn] at e
    have im := immL_enum v
    simp only [p__law_led, defD_eq, g__law_led]
    simp [gEnumT, lim_eq, im, e]
  · rintro a ⟨k, w⟩ b ρ hl ⟨a1, a2, a3, rfl⟩
    have hw : v.zipIdx[a.length]? = some (k, w) := by rw [hl]; simp
    rw [List.getElem?_zipIdx] at hw
    obtain ⟨k', hk', e1⟩ := Option.map_eq_some_iff.mp hw
    simp at e1
    obtain ⟨rfl, rfl⟩ := e1
    obtain ⟨hlt, hve⟩ := List.getElem?_eq_some_iff.mp hk'
    have hm1 : ledF f (a.map (·.1)) 0 m < n := ledF_lt S _ _ _ (by simp; omega) hm
    have e3 : ledF f ((a ++ [(k', a.length)]).map (·.1)) 0 m = it (f a.length) k' (ledF f (a.map (·.1)) 0 m) := by
      rw [List.map_append, ledF_app]
      simp [ledF]
    rw [e3]
    generalize ledF f (a.map (·.1)) 0 m = h0 at *
    have hal : a.length < ins := by omega
    generalize a.length = al at *
    obtain ⟨ρ', e, x5, rfl⟩ := for_mapped (tg := tName 5) (g := dAsg (tName 1) (dIx gIxT (dIx gIxT (dIx gIxT (dIx gIxT (dVar 0) (dC (.int 2))) (dVar 1)) (dVar 3)) (dC (.int 0)))) (deps := [])
      (ρ0 := [some (MD n ins F), some (dn h0), some (.tup (v.map dn)), some (dn al), some (dn k'), a3]) (φ := dn) (l := List.range k') (ρ := [some (MD n ins F), some (dn h0), some (.tup (v.map dn)), some (dn al), some (dn k'), a3])
      (fun done ρ => ∃ x5, ρ = [some (MD n ins F), some (dn (it (f al) done.length h0)), some (.tup (v.map dn)), some (dn al), some (dn k'), x5]) (fun _ _ _ => rfl) ⟨a3, rfl⟩ (by
        rintro a w b ρ hl ⟨x5, rfl⟩
        have hlt : it (f al) a.length h0 < n := it_lt (fun x hx => S.lt al x hal hx) hm1 _
        have e4 : it (f al) (a ++ [w]).length h0 = f al (it (f al) a.length h0) := by rw [List.length_append]; rfl
        rw [e4]
        obtain ⟨q1, q2⟩ := hstep S (Nat.le_refl n) hal hlt
        generalize it (f al) a.length h0 = h1 at *
        refine ⟨_, _, rfl, .inl ?_, some (dn w), rfl⟩
        simp [q1, q2])
    rw [List.length_range] at e
    have gr := range1_nat (n := k') (by have := hk k' (hve ▸ List.getElem_mem _); omega)
    simp only [dn] at gr
    refine ⟨_, _, rfl, .inl ?_, some (dn al), some (dn k'), x5, rfl⟩
    simp [gr]
    exact e
end
end L47
end
end
section
set_option Elab.async false
set_option linter.all false
set_option maxRecDepth 100000
noncomputable section
namespace PD
open L2
theorem gEq_nil (l : List Nat) : gEq (.lst (l.map dn)) (.lst []) = some (.bl (decide (l = []))) := by
  unfold gEq
  have h1 := (shaped_dns l).2
  have h2 : PySem.SeqAt.shaped (toP (.lst [])) = true := rfl
  rw [h1, h2]
  cases l with
  | nil => rfl
  | cons a r => rfl
theorem gEq_nil' (l : List Nat) : gEq (.lst (l.map dn)) (.lst []) = some (.bl l.isEmpty) := by
  rw [gEq_nil]; cases l <;> rfl
theorem gInN_c (m : Nat) (l : List Nat) : gInN true (dn m) (.lst (l.map dn)) = some (.bl (!l.contains m)) := by
  rw [(gInN_dn true m l).1]
  simp
theorem pairsD_kD (v : Nat → D) : ∀ {l : List Nat}, l.Nodup → pairsD (l.map fun m => .tup [dn m, v m]) = some (kD l v)
  | [], _ => rfl
  | a :: r, h => by
    obtain ⟨h1, h2⟩ := List.nodup_cons.mp h
    have ih := pairsD_kD v h2
    have ha := any_kD r v a
    rw [decide_eq_false h1] at ha
    rw [List.map_cons, pairsD, ih]
    simp only [ev_key_int]
    rw [ha]
    simp [kD]
/-- the number in a tree -/
def D.nat : D → Nat
  | .int z => z.toNat
  | _ => 0
@[simp] theorem nat_dn (m : Nat) : (dn m).nat = m := rfl
end PD
namespace L47
open PD L2 CM
section
variable {n ins : Nat} {F : Nat → Nat → Option (Nat × Int)} {f : Nat → Nat → Nat} {g : Nat → Nat → Int} {Lf tf : Nat → Nat}
theorem law_again1 (S : Steps n ins F f g) (N : Net n ins f) (hb : n < 64) :
    p__law_again [MD n ins F] = some (.ok (.tup ((lotN n ins f).map dn)) [none]) := by
  have hM : ∀ m, ∃ fd : List Nat, m < n → p__law_modes [MD n ins F, dn m] = some (.ok (.lst (fd.map dn)) [none, none]) ∧ fd.Nodup ∧ ∀ y, y ∈ fd ↔ Rc ins f m y := fun m => by
    by_cases hm : m < n
    · obtain ⟨fd, h⟩ := law_modes1 S (by omega) hm
      exact ⟨fd, fun _ => h⟩
    · exact ⟨[], fun z => absurd z hm⟩
  obtain ⟨M, hM⟩ := Classical.axiomOfChoice hM
  obtain ⟨e0, nd0, hm0⟩ := hM 0 N.pos
  have hlen : ∀ m, m < n → (M m).length ≤ n := fun m hm => nodup_len (hM m hm).2.1 fun y hy => N.rc_lt hm (((hM m hm).2.2 y).mp hy)
  have c1 := dLc_pure (i := 2) (tt := dYes) (fe := dTup (dCons (dVar 2) (dCons (dCall p__law_modes (dCons (dVar 0) (dCons (dVar 2) (dNil)))) (dNil)))) (fi := dIter1 D.lis (dCall p__law_modes (dCons (dVar 0) (dCons (dC (.int 0)) (dNil)))))
    (ρ := [some (MD n ins F), none, none, none]) (it := ⟨(M 0).map dn, [], false⟩) (b := fun _ => true) (y := fun d => .tup [d, .lst ((M d.nat).map dn)])
    (by have e0' : p__law_modes [MD n ins F, .int 0] = _ := e0; simp [e0']) rfl (by simp) (by simp) (by have := hlen 0 N.pos; rw [List.length_map, lim_eq]; omega) (fun d hd => by
      obtain ⟨m, hm, rfl⟩ := List.mem_map.mp hd
      have hm := N.rc_lt N.pos ((hm0 m).mp hm)
      have e := (hM m hm).1
      simp only [dn] at e
      exact ⟨rfl, fun _ => by simp [e, lim_eq, D.nat]⟩)
  have e2 : (List.filter (fun _ => true) ((M 0).map dn)).map (fun d => D.tup [d, .lst ((M d.nat).map dn)]) = (M 0).map fun m => .tup [dn m, .lst ((M m).map dn)] := by
    rw [List.filter_eq_self.mpr (fun _ _ => rfl), List.map_map]; rfl
  rw [e2] at c1
  have hl0 : (M 0).length ≤ n := hlen 0 N.pos
  have gs : gSortD [.dic (kD (M 0) fun m => .lst ((M m).map dn))] = some (.lst ((List.range n).map dn)) := by
    have hs : srt ((M 0).map Int.ofNat) = ((List.range n).filter fun _ => true).map Int.ofNat := lot_of nd0 fun y => by
      rw [hm0]
      exact ⟨fun r => ⟨N.rc_lt N.pos r, rfl⟩, fun h => N.all y h.1⟩
    rw [List.filter_eq_self.mpr (fun _ _ => rfl)] at hs
    have : (M 0).length < 64 := by omega
    unfold gSortD
    simp only [keysI_kD, Option.bind_some, List.length_map, this, if_true, hs, List.map_map]
    rfl
  have hg : ∀ m, m < n → getD (kD (M 0) fun m => .lst ((M m).map dn)) (.inl (m : Int)) = some (.lst ((M m).map dn)) := fun m hm => by
    rw [getD_kD, if_pos ((hm0 m).mpr (N.all m hm))]
  have inner : ∀ m, m < n → dLc [3] (tName 3) (dIter1 D.lis (dIx gIxD (dVar 1) (dVar 2))) (dB (dOp (gInN true) (dVar 2) (dIx gIxD (dVar 1) (dVar 3)))) (dVar 3) [some (MD n ins F), some (.dic (kD (M 0) fun m => .lst ((M m).map dn))), some (dn m), none] =
      some (.ok (.own (.lst (((M m).filter fun k => !(M k).contains m).map dn))) [some (MD n ins F), some (.dic (kD (M 0) fun m => .lst ((M m).map dn))), some (dn m), none] true) := fun m hm => by
    have c := dLc_pure (i := 3) (tt := dB (dOp (gInN true) (dVar 2) (dIx gIxD (dVar 1) (dVar 3)))) (fe := dVar 3) (fi := dIter1 D.lis (dIx gIxD (dVar 1) (dVar 2))) (ρ := [some (MD n ins F), some (.dic (kD (M 0) fun m => .lst ((M m).map dn))), some (dn m), none])
      (it := ⟨(M m).map dn, [], true⟩) (b := fun d => !(M d.nat).contains m) (y := fun d => d) (by simp [hg m hm]) rfl (by simp) (by simp) (by have := hlen m hm; rw [List.length_map, lim_eq]; omega) (fun d hd => by
        obtain ⟨k, hk, rfl⟩ := List.mem_map.mp hd
        have hk := N.rc_lt hm (((hM m hm).2.2 k).mp hk)
        have gi := gInN_c m (M k)
        simp only [dn] at gi
        refine ⟨?_, fun _ => by simp⟩
        rw [nat_dn]
        generalize (M k).contains m = bb at *
        simp [hg k hk, gi])
    rw [c, List.map_id', List.filter_map]
    rfl
  have c2 := dLc_pure (i := 2) (tt := dB (dOp gEq (dLc [3] (tName 3) (dIter1 D.lis (dIx gIxD (dVar 1) (dVar 2))) (dB (dOp (gInN true) (dVar 2) (dIx gIxD (dVar 1) (dVar 3)))) (dVar 3)) (dLst (dNil)))) (fe := dVar 2) (fi := dIter1 D.lis (dCB gSortD (dCons (dVar 1) (dNil))))
    (ρ := [some (MD n ins F), some (.dic (kD (M 0) fun m => .lst ((M m).map dn))), none, none]) (it := ⟨(List.range n).map dn, [], false⟩) (b := fun d => ((M d.nat).filter fun k => !(M k).contains d.nat).isEmpty) (y := fun d => d)
    (by simp [gs]) rfl (by simp) (by simp) (by simp [lim_eq]; omega) (fun d hd => by
      obtain ⟨m, hm, rfl⟩ := List.mem_map.mp hd
      have hm := List.mem_range.mp hm
      have i1 := inner m hm
      have i2 := gEq_nil' ((M m).filter fun k => !(M k).contains m)
      generalize dLc [3] = dl at *
      refine ⟨?_, fun _ => by simp⟩
      have e4 : [some (MD n ins F), some (.dic (kD (M 0) fun m => .lst ((M m).map dn))), none, none].set 2 (some (dn m)) = [some (MD n ins F), some (.dic (kD (M 0) fun m => .lst ((M m).map dn))), some (dn m), none] := rfl
      rw [e4, nat_dn]
      generalize (M m).filter (fun k => !(M k).contains m) = fl at *
      simp [i1, i2, lim_eq])
  have e3 : ((List.filter (fun d => ((M d.nat).filter fun k => !(M k).contains d.nat).isEmpty) ((List.range n).map dn)).map fun d => d) = (lotN n ins f).map dn := by
    rw [List.map_id', List.filter_map]
    congr 1
    unfold lotN
    apply List.filter_congr
    intro m hm
    have hm := List.mem_range.mp hm
    have e5 : ((fun d => ((M d.nat).filter fun k => !(M k).contains d.nat).isEmpty) ∘ dn) m = ((M m).filter fun k => !(M k).contains m).isEmpty := rfl
    classical
    rw [e5, Bool.eq_iff_iff, List.isEmpty_iff, List.filter_eq_nil_iff]
    refine Iff.trans ?_ (decide_eq_true_iff (p := Again n ins f m)).symm
    constructor
    · intro h
      refine ⟨hm, fun b hb => ?_⟩
      have := h b (((hM m hm).2.2 b).mpr hb)
      simp at this
      exact ((hM b (N.rc_lt hm hb)).2.2 m).mp this
    · rintro ⟨_, h⟩ b hb
      have hb := ((hM m hm).2.2 b).mp hb
      simp
      exact ((hM b (N.rc_lt hm hb)).2.2 m).mpr (h b hb)
  rw [e3] at c2
  have pk := pairsD_kD (fun m => .lst ((M m).map dn)) nd0
  simp only [p__law_again, defD_eq, g__law_again]
  have hl1 : ((M 0).map fun m => D.tup [dn m, .lst ((M m).map dn)]).length ≤ LIM := by rw [List.length_map, lim_eq]; omega
  generalize ((M 0).map fun m => D.tup [dn m, .lst ((M m).map dn)]) = ml at *
  generalize dLc [2] = dl at *
  have im : immL ((lotN n ins f).map dn) = true := immL_dn _
  generalize (lotN n ins f).map dn = res at *
  simp [dDict, c1, c2, pk, hl1, im]
end
end L47
end
end
section
set_option Elab.async false
set_option linter.all false
set_option maxRecDepth 100000
noncomputable section
namespace PD
open L2
/-- a comprehension that changes nothing but its own names -/
theorem lc_pureG {α : Type} {vs : List Nat} {tg : D → Rho → Option Rho} {tt : EvB} {fe : Ev} {deps : List Nat} {need : Bool} {ρ : Rho} {φ : α → D} {b : α → Bool} {y : α → D} :
    ∀ (xs : List α) (acc : List D), acc.length + xs.length ≤ LIM →
    (∀ x ∈ xs, ∃ ρ1, tg (φ x) ρ = some ρ1 ∧ tt ρ1 = some (.ok (b x) ρ1 true) ∧ (b x = true → fe ρ1 = some (.ok (.own (y x)) ρ1 true)) ∧ wipeR ρ1 vs = ρ) →
    lcL vs tg tt fe deps need ρ (xs.map φ) ρ acc true = some (ρ, acc ++ (xs.filter b).map y, true) := by
  intro xs
  induction xs with
  | nil => intro acc _ _; simp [lcL, depsOk_refl]
  | cons d r ih =>
    intro acc hl h
    obtain ⟨ρ1, h0, h1, h2, h3⟩ := h d List.mem_cons_self
    have hr := fun d hd => h d (List.mem_cons_of_mem _ hd)
    simp only [List.length_cons] at hl
    rw [List.map_cons]
    unfold lcL
    simp only [depsOk_refl, Bool.true_and, Bool.or_true, if_true, h0, h1]
    cases hb : b d with
    | false =>
      simp only [h3]
      rw [ih acc (by omega) hr]
      simp [List.filter_cons, hb]
    | true =>
      simp only [h2 hb, ev_takeR_own, h3]
      rw [if_pos (by omega), Bool.true_and]
      rw [ih (acc ++ [y d]) (by simp; omega) hr]
      simp [List.filter_cons, hb]
theorem dLc_pureG {α : Type} {vs : List Nat} {tg : D → Rho → Option Rho} {tt : EvB} {fe : Ev} {fi : EvI} {ρ : Rho} {φ : α → D} {xs : List α} {deps : List Nat} {need : Bool} {b : α → Bool} {y : α → D} (e : fi ρ = some (.ok ⟨xs.map φ, deps, need⟩ ρ true)) (hi : immL (xs.map φ) = true) (hdep : (deps.all fun j => !vs.contains j) = true) (hl : xs.length ≤ LIM)
    (h : ∀ x ∈ xs, ∃ ρ1, tg (φ x) (wipeR ρ vs) = some ρ1 ∧ tt ρ1 = some (.ok (b x) ρ1 true) ∧ (b x = true → fe ρ1 = some (.ok (.own (y x)) ρ1 true)) ∧ wipeR ρ1 vs = wipeR ρ vs) :
    dLc vs tg fi tt fe ρ = some (.ok (.own (.lst ((xs.filter b).map y))) (wipeR ρ vs) true) := by
  unfold dLc
  simp only [ev_bndI, e]
  rw [if_pos ⟨hi, hdep⟩, lc_pureG xs [] (by simpa using hl) h]
  simp
@[simp] theorem ev_wipe_nil (ρ : Rho) : wipeR ρ [] = ρ := rfl
@[simp] theorem ev_wipe_cons (ρ : Rho) (v : Nat) (vs : List Nat) : wipeR ρ (v :: vs) = (wipeR ρ vs).set v none := rfl
theorem eqvAll_dn : ∀ l : List Nat, PySem.PyData.eqvAll (toPL (l.map dn)) (toPL (l.map dn)) = true
  | [] => rfl
  | a :: r => by
    rw [List.map_cons, toPL]
    show ((((a : Int)) == (a : Int)) && PySem.PyData.eqvAll (toPL (r.map dn)) (toPL (r.map dn))) = true
    rw [eqvAll_dn r]; simp
theorem gNe_lst (l : List Nat) : gNe (.lst (l.map dn)) (.lst (l.map dn)) = some (.bl false) := by
  unfold gNe
  simp only [(shaped_dns l).2, Bool.and_self, if_true]
  have : PySem.PyData.eqv (toP (.lst (l.map dn))) (toP (.lst (l.map dn))) = true := eqvAll_dn l
  rw [this]; rfl
theorem gEq_dn (a b : Nat) : gEq (dn a) (dn b) = some (.bl (decide (a = b))) := by
  unfold gEq
  simp only [shaped_dn, Bool.and_self, if_true]
  have : PySem.PyData.eqv (toP (dn a)) (toP (dn b)) = decide (a = b) := by
    show (((a : Int)) == (b : Int)) = _
    rw [Bool.eq_iff_iff]; simp; omega
  rw [this]
theorem gNe_dn (a b : Nat) : gNe (dn a) (dn b) = some (.bl (!decide (a = b))) := by
  unfold gNe
  simp only [shaped_dn, Bool.and_self, if_true]
  have : PySem.PyData.eqv (toP (dn a)) (toP (dn b)) = decide (a = b) := by
    show (((a : Int)) == (b : Int)) = _
    rw [Bool.eq_iff_iff]; simp; omega
  rw [this]
theorem gSortL_dn {l : List Nat} {r : List Nat} (h : srt (l.map Int.ofNat) = r.map Int.ofNat) (hl : l.length ≤ LIM) : gSortL [.lst (l.map dn)] = some (.lst (r.map dn)) := by
  have e : l.map dn = (l.map Int.ofNat).map D.int := by rw [List.map_map]; rfl
  have e2 : r.map dn = (r.map Int.ofNat).map D.int := by rw [List.map_map]; rfl
  letI : Tbs := ⟨[]⟩
  have e3 : intsOf ((l.map Int.ofNat).map D.int) = some (l.map Int.ofNat) := intsOf_map _
  unfold gSortL
  rw [e]
  simp only [e3, Option.bind_some, List.length_map, hl, if_true, h, e2]
theorem gSortD_dn {l : List Nat} {v : Nat → D} {r : List Nat} (h : srt (l.map Int.ofNat) = r.map Int.ofNat) (hl : l.length < 64) : gSortD [.dic (kD l v)] = some (.lst (r.map dn)) := by
  have e2 : r.map dn = (r.map Int.ofNat).map D.int := by rw [List.map_map]; rfl
  unfold gSortD
  simp only [keysI_kD, Option.bind_some, List.length_map, hl, if_true, h, e2]
end PD

namespace L47
open PD L2 CM
section
variable {n ins : Nat} {F : Nat → Nat → Option (Nat × Int)} {f : Nat → Nat → Nat} {g : Nat → Nat → Int} {Lf tf : Nat → Nat} {h p : List Nat}
theorem lot_nodup : (lotN n ins f).Nodup := List.Pairwise.filter _ List.nodup_range
theorem lot_len : (lotN n ins f).length ≤ n := by
  have := List.length_filter_le (fun m => @decide (Again n ins f m) (Classical.propDecidable _)) (List.range n)
  rw [List.length_range] at this
  exact this
theorem again_it (N : Net n ins f) (H : Home n ins f h p) {w : Nat} (hw : w < ins) {m : Nat} (hm : Again n ins f m) : ∀ k, Again n ins f (it (f w) k m)
  | 0 => hm
  | k + 1 => H.step N hw (again_it N H hw hm k)
theorem lot_sort {l : List Nat} (nd : l.Nodup) (hl : ∀ y, y ∈ l ↔ Again n ins f y) : srt (l.map Int.ofNat) = (lotN n ins f).map Int.ofNat := by
  classical
  unfold lotN
  refine lot_of nd fun y => ?_
  rw [hl, decide_eq_true_iff]
  exact ⟨fun h => ⟨h.1, h⟩, fun h => h.2⟩
/-- a wire on the modes that come again -/
theorem lot_wire (N : Net n ins f) (H : Home n ins f h p) {w : Nat} (hw : w < ins) : srt (((lotN n ins f).map (f w)).map Int.ofNat) = (lotN n ins f).map Int.ofNat := by
  refine lot_sort ?_ ?_
  · rw [List.Nodup, List.pairwise_map]
    have := lot_nodup (n := n) (ins := ins) (f := f)
    refine List.Pairwise.imp_of_mem ?_ this
    intro a b ha hb hne e
    exact hne (H.inj N hw (lot_mem.mp ha) (lot_mem.mp hb) e)
  · intro y
    rw [List.mem_map]
    constructor
    · rintro ⟨a, ha, rfl⟩
      exact H.step N hw (lot_mem.mp ha)
    · intro hy
      obtain ⟨x, q, hx, hq⟩ := H.at_ hw
      have h1 := H.more N hq hw hy.1
      rw [H.fix N hy] at h1
      have := H.pp w q hq
      refine ⟨it (f w) (q - 1) y, lot_mem.mpr (again_it N H hw hy _), ?_⟩
      have e2 : f w (it (f w) (q - 1) y) = it (f w) (q - 1 + 1) y := rfl
      rw [e2, show q - 1 + 1 = q by omega, h1]
theorem wires_right (S : Steps n ins F f g) (N : Net n ins f) (H : Home n ins f h p) (hb : n < 64) (hi : ins ≤ 100) {x2 : Option D} :
    ∃ x3, dFor [] (tName 3) (dIterL gRange1 (dCons (dIx gIxT (dVar 0) (dC (.int 0))) (dNil))) (dIfS (dB (dOp gNe (dCB gSortL (dCons (dLc [11] (tName 11) (dIter1 tupI (dVar 1)) (dYes) (dIx gIxT (dIx gIxT (dIx gIxT (dIx gIxT (dVar 0) (dC (.int 2))) (dVar 11)) (dVar 3)) (dC (.int 0)))) (dNil))) (dCB gLstOf (dCons (dVar 1) (dNil))))) (dRet (dC (.bl false))) (dNil'))
      [some (MD n ins F), some (.tup ((lotN n ins f).map dn)), x2, none, none, none, none, none, none, none, none, none, none, none, none, none] =
      some (.nx [some (MD n ins F), some (.tup ((lotN n ins f).map dn)), x2, x3, none, none, none, none, none, none, none, none, none, none, none, none]) := by
  obtain ⟨ρ', e, x3, rfl⟩ := for_mapped (tg := tName 3) (g := dIfS (dB (dOp gNe (dCB gSortL (dCons (dLc [11] (tName 11) (dIter1 tupI (dVar 1)) (dYes) (dIx gIxT (dIx gIxT (dIx gIxT (dIx gIxT (dVar 0) (dC (.int 2))) (dVar 11)) (dVar 3)) (dC (.int 0)))) (dNil))) (dCB gLstOf (dCons (dVar 1) (dNil))))) (dRet (dC (.bl false))) (dNil'))
    (deps := []) (ρ0 := [some (MD n ins F), some (.tup ((lotN n ins f).map dn)), x2, none, none, none, none, none, none, none, none, none, none, none, none, none]) (φ := dn) (l := List.range ins)
    (ρ := [some (MD n ins F), some (.tup ((lotN n ins f).map dn)), x2, none, none, none, none, none, none, none, none, none, none, none, none, none])
    (fun _ ρ => ∃ x3, ρ = [some (MD n ins F), some (.tup ((lotN n ins f).map dn)), x2, x3, none, none, none, none, none, none, none, none, none, none, none, none]) (fun _ _ _ => rfl) ⟨none, rfl⟩ (by
      rintro a w b ρ hl ⟨x3, rfl⟩
      obtain ⟨h1, hw, -⟩ := range_split hl
      have c := dLc_pureG (vs := [11]) (tg := tName 11) (tt := dYes) (fe := dIx gIxT (dIx gIxT (dIx gIxT (dIx gIxT (dVar 0) (dC (.int 2))) (dVar 11)) (dVar 3)) (dC (.int 0))) (fi := dIter1 tupI (dVar 1))
        (ρ := [some (MD n ins F), some (.tup ((lotN n ins f).map dn)), x2, some (dn w), none, none, none, none, none, none, none, none, none, none, none, none]) (φ := dn) (xs := lotN n ins f) (deps := []) (need := false) (b := fun _ => true) (y := fun m => dn (f w m))
        (by simp) (by simp) rfl (by have := lot_len (n := n) (ins := ins) (f := f); rw [lim_eq]; omega) (fun m hm => by
          have hm := (lot_mem.mp hm).1
          obtain ⟨q1, q2⟩ := hstep S (Nat.le_refl n) hw hm
          refine ⟨_, rfl, rfl, fun _ => ?_, by simp⟩
          simp [q1, q2])
      rw [List.filter_eq_self.mpr (fun _ _ => rfl)] at c
      have e1 : (lotN n ins f).map (fun m => dn (f w m)) = ((lotN n ins f).map (f w)).map dn := by rw [List.map_map]; rfl
      rw [e1] at c
      have gs := gSortL_dn (lot_wire N H hw) (by have := lot_len (n := n) (ins := ins) (f := f); rw [List.length_map, lim_eq]; omega)
      have gn := gNe_lst (lotN n ins f)
      refine ⟨_, _, rfl, .inl ?_, some (dn w), rfl⟩
      generalize dLc [11] = dl at *
      have im : immL ((lotN n ins f).map dn) = true := immL_dn _
      generalize ((lotN n ins f).map (f w)).map dn = l1 at *
      generalize (lotN n ins f).map dn = l2 at *
      simp [c, gs, gn, im])
  have gr := range1_nat (n := ins) (by omega)
  simp only [dn] at gr
  refine ⟨x3, ?_⟩
  generalize (lotN n ins f).map dn = l2 at *
  simp only [ev_dFor]
  simp [gr]
  exact e
end
end L47
end
end
section
set_option Elab.async false
set_option linter.all false
set_option maxRecDepth 100000
noncomputable section
namespace L47
open PD L2 CM
section
variable {n ins : Nat} {F : Nat → Nat → Option (Nat × Int)} {f : Nat → Nat → Nat} {g : Nat → Nat → Int} {Lf tf : Nat → Nat} {h p : List Nat}
/-- one token more on a wire -/
def inc (k : Nat) (v : List Nat) (w : Nat) : List Nat := (v.zipIdx k).map fun p => p.1 + if p.2 = w then 1 else 0
theorem inc_len (k : Nat) (v : List Nat) (w : Nat) : (inc k v w).length = v.length := by simp [inc]
theorem inc_le {k : Nat} {v : List Nat} {w b : Nat} (h : ∀ a ∈ v, a < b) : ∀ a ∈ inc k v w, a < b + 1 := by
  intro a ha
  obtain ⟨⟨x, i⟩, hx, rfl⟩ := List.mem_map.mp ha
  have := h x (List.fst_mem_of_mem_zipIdx hx)
  simp only
  split <;> omega
theorem inc_led (N : Net n ins f) {w : Nat} (hw : w < ins) : ∀ (v : List Nat) (k m : Nat), k + v.length ≤ ins → m < n → ledF f (inc k v w) k m = if k ≤ w ∧ w < k + v.length then f w (ledF f v k m) else ledF f v k m
  | [], k, m, _, _ => by simp [inc, ledF]; omega
  | a :: r, k, m, hl, hm => by
    simp only [List.length_cons] at hl
    have hk : k < ins := by omega
    have e : inc k (a :: r) w = (a + if k = w then 1 else 0) :: inc (k + 1) r w := by simp [inc, List.zipIdx_cons]
    rw [e, ledF, ledF]
    have ca := Cm.it N (Cm.wire N hk)
    rw [inc_led N hw r (k + 1) _ (by omega) ((ca _).lt m hm)]
    by_cases hkw : k = w
    · subst hkw
      rw [if_pos rfl, if_neg (by omega), if_pos ⟨by omega, by simp⟩]
      have e2 : it (f k) (a + 1) m = f k (it (f k) a m) := rfl
      rw [e2, (Cm.led N r (k + 1) (by omega)).comm k _ hk ((ca a).lt m hm)]
    · simp only [if_neg hkw, Nat.add_zero]
      by_cases hw2 : k + 1 ≤ w ∧ w < k + 1 + r.length
      · rw [if_pos hw2, if_pos ⟨by omega, by simp only [List.length_cons]; omega⟩]
      · rw [if_neg hw2, if_neg (by simp only [List.length_cons]; omega)]
theorem zero_led : ∀ (k w m : Nat), ledF f (List.replicate k 0) w m = m
  | 0, _, _ => rfl
  | k + 1, w, m => by rw [List.replicate_succ, ledF]; exact zero_led k (w + 1) m
def wayD (wv : Nat → List Nat) : Nat → D := fun m => .tup ((wv m).map dn)
theorem inc_comp {fd : List Nat} {wv : Nat → List Nat} {m w : Nat} (hm : m ∈ fd) {M l x2 : D} {x5 x7 : Option D} (hv : (wv m).length ≤ 100) :
    dLc [12, 13] (tTupG 2 (tsCons (tName 12) (tsCons (tName 13) (tsNil)))) (dIterL gEnumT (dCons (dIx gIxD (dVar 4) (dVar 6)) (dNil))) (dYes) (dOp gAdd (dVar 13) (dCB gInt (dCons (dOp gEq (dVar 12) (dVar 3)) (dNil))))
      [some M, some l, some x2, some (dn w), some (.dic (kD fd (wayD wv))), x5, some (dn m), x7, none, none, none, none, none, none, none, none] =
    some (.ok (.own (.lst ((inc 0 (wv m) w).map dn))) [some M, some l, some x2, some (dn w), some (.dic (kD fd (wayD wv))), x5, some (dn m), x7, none, none, none, none, none, none, none, none] true) := by
  have hg : getD (kD fd (wayD wv)) (.inl (m : Int)) = some (wayD wv m) := by rw [getD_kD, if_pos hm]
  have im := immL_enum (wv m)
  have c := dLc_pureG (vs := [12, 13]) (tg := tTupG 2 (tsCons (tName 12) (tsCons (tName 13) (tsNil)))) (tt := dYes) (fe := dOp gAdd (dVar 13) (dCB gInt (dCons (dOp gEq (dVar 12) (dVar 3)) (dNil)))) (fi := dIterL gEnumT (dCons (dIx gIxD (dVar 4) (dVar 6)) (dNil)))
    (ρ := [some M, some l, some x2, some (dn w), some (.dic (kD fd (wayD wv))), x5, some (dn m), x7, none, none, none, none, none, none, none, none]) (φ := fun p : Nat × Nat => D.tup [dn p.2, dn p.1]) (xs := (wv m).zipIdx) (deps := []) (need := false) (b := fun _ => true) (y := fun p => dn (p.1 + if p.2 = w then 1 else 0))
    (by rw [← enumL_dn]; simp [hg, wayD, gEnumT]) (by simp) rfl (by rw [List.length_zipIdx, lim_eq]; omega) (fun q hq => by
      obtain ⟨a, i⟩ := q
      have ge := gEq_dn i w
      simp only [dn] at ge
      refine ⟨_, rfl, rfl, fun _ => ?_, by simp⟩
      simp [ge]
      by_cases hiw : i = w <;> simp [hiw])
  rw [List.filter_eq_self.mpr (fun _ _ => rfl)] at c
  have e1 : (wv m).zipIdx.map (fun p => dn (p.1 + if p.2 = w then 1 else 0)) = (inc 0 (wv m) w).map dn := by simp [inc]
  rw [e1] at c
  exact c
/-- the loop that finds a way to each mode that comes again -/
theorem ways_loop (S : Steps n ins F f g) (N : Net n ins f) (hb : n < 64) (hi : ins ≤ 100) {h : Nat} (hh : h < n) {l : D} {x3 : Option D} :
    ∃ (fd : List Nat) (wv : Nat → List Nat) (x3' x6 x7 : Option D), dWhile (dB (dOp gNe (dVar 5) (dLst (dNil)))) (dSeq (dAsg (tName 6) (dMtM gPop 5 dNil))
    (dFor [] (tName 3) (dIterL gRange1 (dCons (dIx gIxT (dVar 0) (dC (.int 0))) (dNil))) (dSeq (dAsg (tName 7) (dIx gIxT (dIx gIxT (dIx gIxT (dIx gIxT (dVar 0) (dC (.int 2))) (dVar 6)) (dVar 3)) (dC (.int 0))))
    (dIfS (dB (dOp (gInD true) (dVar 7) (dVar 4))) (dSeq (dPut 4 (dVar 7) (dCB gTupOf (dCons (dLc [12, 13] (tTupG 2 (tsCons (tName 12) (tsCons (tName 13) (tsNil)))) (dIterL gEnumT (dCons (dIx gIxD (dVar 4) (dVar 6)) (dNil))) (dYes) (dOp gAdd (dVar 13) (dCB gInt (dCons (dOp gEq (dVar 12) (dVar 3)) (dNil))))) (dNil))))
    (dExp (dMtM gApp 5 (dCons (dVar 7) (dNil))))) (dNil'))))) 1000
      [some (MD n ins F), some l, some (dn h), x3, some (.dic (kD [h] (wayD fun _ => List.replicate ins 0))), some (.lst [dn h]), none, none, none, none, none, none, none, none, none, none] =
      some (.nx [some (MD n ins F), some l, some (dn h), x3', some (.dic (kD fd (wayD wv))), some (.lst []), x6, x7, none, none, none, none, none, none, none, none]) ∧ fd.Nodup ∧ (∀ y, y ∈ fd ↔ Rc ins f h y) ∧
      ∀ m ∈ fd, (wv m).length = ins ∧ (∀ a ∈ wv m, a < 64) ∧ ledF f (wv m) 0 h = m := by
  have key := while_rule (t := dB (dOp gNe (dVar 5) (dLst (dNil)))) (g := dSeq (dAsg (tName 6) (dMtM gPop 5 dNil))
    (dFor [] (tName 3) (dIterL gRange1 (dCons (dIx gIxT (dVar 0) (dC (.int 0))) (dNil))) (dSeq (dAsg (tName 7) (dIx gIxT (dIx gIxT (dIx gIxT (dIx gIxT (dVar 0) (dC (.int 2))) (dVar 6)) (dVar 3)) (dC (.int 0))))
    (dIfS (dB (dOp (gInD true) (dVar 7) (dVar 4))) (dSeq (dPut 4 (dVar 7) (dCB gTupOf (dCons (dLc [12, 13] (tTupG 2 (tsCons (tName 12) (tsCons (tName 13) (tsNil)))) (dIterL gEnumT (dCons (dIx gIxD (dVar 4) (dVar 6)) (dNil))) (dYes) (dOp gAdd (dVar 13) (dCB gInt (dCons (dOp gEq (dVar 12) (dVar 3)) (dNil))))) (dNil))))
    (dExp (dMtM gApp 5 (dCons (dVar 7) (dNil))))) (dNil')))))
    (fun k ρ => ∃ (fd ln : List Nat) (wv : Nat → List Nat) (x3 x6 x7 : Option D), ρ = [some (MD n ins F), some l, some (dn h), x3, some (.dic (kD fd (wayD wv))), some (.lst (ln.map dn)), x6, x7, none, none, none, none, none, none, none, none] ∧ fd.Nodup ∧ h ∈ fd ∧ (∀ y ∈ fd, y < n ∧ Rc ins f h y) ∧ (∀ y ∈ ln, y ∈ fd) ∧ ln.length ≤ fd.length ∧
      (∀ y ∈ fd, y ∈ ln ∨ ∀ w, w < ins → f w y ∈ fd) ∧ (∀ m ∈ fd, (wv m).length = ins ∧ (∀ a ∈ wv m, a < fd.length) ∧ ledF f (wv m) 0 h = m) ∧ k = 2 * (n - fd.length) + ln.length)
    (fun ρ => ∃ (fd : List Nat) (wv : Nat → List Nat) (x3 x6 x7 : Option D), ρ = [some (MD n ins F), some l, some (dn h), x3, some (.dic (kD fd (wayD wv))), some (.lst []), x6, x7, none, none, none, none, none, none, none, none] ∧ fd.Nodup ∧ h ∈ fd ∧ (∀ y ∈ fd, y < n ∧ Rc ins f h y) ∧ (∀ y ∈ fd, ∀ w, w < ins → f w y ∈ fd) ∧
      (∀ m ∈ fd, (wv m).length = ins ∧ (∀ a ∈ wv m, a < fd.length) ∧ ledF f (wv m) 0 h = m))
    ?_ 1000 (2 * (n - 1) + 1) [some (MD n ins F), some l, some (dn h), x3, some (.dic (kD [h] (wayD fun _ => List.replicate ins 0))), some (.lst [dn h]), none, none, none, none, none, none, none, none, none, none] (by omega)
    ⟨[h], [h], fun _ => List.replicate ins 0, x3, none, none, rfl, by simp, by simp, by simpa using ⟨hh, Rc.refl h⟩, by simp, by simp, by simp, fun m hm => by
      rw [List.mem_singleton.mp hm]
      refine ⟨by simp, fun a ha => ?_, zero_led _ _ _⟩
      have := List.eq_of_mem_replicate ha
      subst this; simp, by simp⟩
  · obtain ⟨ρ', e, fd, wv, x3', x6, x7, rfl, nd, hin, h1, h2, h3⟩ := key
    have hl := nodup_len nd fun y hy => (h1 y hy).1
    refine ⟨fd, wv, x3', x6, x7, e, nd, fun y => ⟨fun hy => (h1 y hy).2, fun r => ?_⟩, fun m hm => ⟨(h3 m hm).1, fun a ha => by have := (h3 m hm).2.1 a ha; omega, (h3 m hm).2.2⟩⟩
    induction r with
    | refl => exact hin
    | tail _ hw ih => exact h2 _ ih _ hw
  · rintro k ρ ⟨fd, ln, wv, x3, x6, x7, rfl, nd, hin, hlt, hsub, hll, hcl, hway, rfl⟩
    refine ⟨!decide (ln = []), [some (MD n ins F), some l, some (dn h), x3, some (.dic (kD fd (wayD wv))), some (.lst (ln.map dn)), x6, x7, none, none, none, none, none, none, none, none], true, by simp [gNe_nil], fun hb => ?_, fun hb => ?_⟩
    · have hne : ln ≠ [] := by simpa using hb
      obtain ⟨l0, m, rfl⟩ : ∃ r x, ln = r ++ [x] := ⟨ln.dropLast, ln.getLast hne, (List.dropLast_concat_getLast hne).symm⟩
      have hmf : m ∈ fd := hsub m (by simp)
      obtain ⟨hm, hrc⟩ := hlt m hmf
      have q1 : (((l0 ++ [m]).map dn).getLast?) = some (dn m) := by simp
      have q2 : (((l0 ++ [m]).map dn).dropLast) = l0.map dn := by simp
      obtain ⟨ρ', e, r, wv', x3', x7', rfl, nd', hlt', hway', hdone⟩ := for_mapped (tg := tName 3) (g := dSeq (dAsg (tName 7) (dIx gIxT (dIx gIxT (dIx gIxT (dIx gIxT (dVar 0) (dC (.int 2))) (dVar 6)) (dVar 3)) (dC (.int 0))))
          (dIfS (dB (dOp (gInD true) (dVar 7) (dVar 4))) (dSeq (dPut 4 (dVar 7) (dCB gTupOf (dCons (dLc [12, 13] (tTupG 2 (tsCons (tName 12) (tsCons (tName 13) (tsNil)))) (dIterL gEnumT (dCons (dIx gIxD (dVar 4) (dVar 6)) (dNil))) (dYes) (dOp gAdd (dVar 13) (dCB gInt (dCons (dOp gEq (dVar 12) (dVar 3)) (dNil))))) (dNil))))
          (dExp (dMtM gApp 5 (dCons (dVar 7) (dNil))))) (dNil')))
          (deps := []) (ρ0 := [some (MD n ins F), some l, some (dn h), x3, some (.dic (kD fd (wayD wv))), some (.lst (l0.map dn)), some (dn m), x7, none, none, none, none, none, none, none, none]) (φ := dn) (l := List.range ins)
          (ρ := [some (MD n ins F), some l, some (dn h), x3, some (.dic (kD fd (wayD wv))), some (.lst (l0.map dn)), some (dn m), x7, none, none, none, none, none, none, none, none])
        (fun done ρ => ∃ (r : List Nat) (wv' : Nat → List Nat) (x3 x7 : Option D), ρ = [some (MD n ins F), some l, some (dn h), x3, some (.dic (kD (fd ++ r) (wayD wv'))), some (.lst ((l0 ++ r).map dn)), some (dn m), x7, none, none, none, none, none, none, none, none] ∧ (fd ++ r).Nodup ∧ (∀ y ∈ fd ++ r, y < n ∧ Rc ins f h y) ∧
          (∀ m ∈ fd ++ r, (wv' m).length = ins ∧ (∀ a ∈ wv' m, a < (fd ++ r).length) ∧ ledF f (wv' m) 0 h = m) ∧ ∀ w ∈ done, f w m ∈ fd ++ r)
        (fun _ _ _ => rfl) ⟨[], wv, x3, x7, by simp, by simpa using nd, by simpa using hlt, by simpa using hway, by simp⟩ (by
          rintro a w b ρ hl ⟨r, wv', x3, x7, rfl, nd', hlt', hway', hdone⟩
          obtain ⟨ha, hw, -⟩ := range_split hl
          have hl' := nodup_len nd' fun y hy => (hlt' y hy).1
          obtain ⟨p1, p2⟩ := hstep S (Nat.le_refl n) hw hm
          have hmf' : m ∈ fd ++ r := List.mem_append_left _ hmf
          have gk := getD_kD (fd ++ r) (wayD wv') (f w m)
          by_cases hmem : f w m ∈ fd ++ r
          · refine ⟨_, [some (MD n ins F), some l, some (dn h), some (dn w), some (.dic (kD (fd ++ r) (wayD wv'))), some (.lst ((l0 ++ r).map dn)), some (dn m), some (dn (f w m)), none, none, none, none, none, none, none, none], rfl, .inl ?_, ⟨r, wv', _, _, rfl, nd', hlt', hway', ?_⟩⟩
            · rw [if_pos hmem] at gk
              generalize kD (fd ++ r) (wayD wv') = kk at *
              generalize (l0 ++ r).map dn = ll at *
              simp [p1, p2, gk]
            · intro v hv
              rcases List.mem_append.mp hv with z | z
              · exact hdone v z
              · rw [List.mem_singleton.mp z]; exact hmem
          · have cc := inc_comp (fd := fd ++ r) (wv := wv') (m := m) (w := w) hmf' (M := MD n ins F) (l := l) (x2 := dn h) (x5 := some (.lst ((l0 ++ r).map dn))) (x7 := some (dn (f w m))) (by rw [(hway' m hmf').1]; omega)
            have p := putD_kD (v := wayD wv') (v' := wayD fun z => if z = f w m then inc 0 (wv' m) w else wv' z) (d := .tup ((inc 0 (wv' m) w).map dn)) hmem (fun z hz => by
              have : z ≠ f w m := fun e => hmem (e ▸ hz)
              simp [wayD, this]) (by simp [wayD])
            have hfl : (kD (fd ++ r) (wayD wv')).length < LIM := by rw [kD_length, lim_eq]; omega
            have hll2 : ((l0 ++ r).map dn).length < LIM := by
              rw [lim_eq, List.length_map]
              simp only [List.length_append, List.length_cons, List.length_nil] at hl' hll ⊢
              omega
            have el : (l0 ++ (r ++ [f w m])).map dn = (l0 ++ r).map dn ++ [dn (f w m)] := by simp
            have imm1 : immL ((inc 0 (wv' m) w).map dn) = true := immL_dn _
            refine ⟨_, [some (MD n ins F), some l, some (dn h), some (dn w), some (.dic (kD (fd ++ r ++ [f w m]) (wayD fun z => if z = f w m then inc 0 (wv' m) w else wv' z))), some (.lst ((l0 ++ (r ++ [f w m])).map dn)), some (dn m), some (dn (f w m)), none, none, none, none, none, none, none, none], rfl, .inl ?_, ⟨r ++ [f w m], _, _, _, by rw [List.append_assoc], ?_, ?_, ?_, ?_⟩⟩
            · rw [if_neg hmem] at gk
              rw [el, ← p]
              generalize kD (fd ++ r) (wayD wv') = kk at *
              generalize (l0 ++ r).map dn = ll at *
              generalize dLc [12, 13] = dl at *
              generalize (inc 0 (wv' m) w).map dn = vv at *
              refine seq_to (ρ1 := [some (MD n ins F), some l, some (dn h), some (dn w), some (.dic kk), some (.lst ll), some (dn m), some (dn (f w m)), none, none, none, none, none, none, none, none]) (by simp [p1, p2]) ?_
              simp [gk, cc, hfl, hll2, imm1]
            · have := addN_nodup (j := f w m) nd'
              rw [addN, if_neg hmem] at this
              rwa [← List.append_assoc]
            · intro y hy
              rw [← List.append_assoc] at hy
              rcases List.mem_append.mp hy with z | z
              · exact hlt' y z
              · rw [List.mem_singleton.mp z]; exact ⟨N.lt w m hw hm, .tail hrc hw⟩
            · intro y hy
              rw [← List.append_assoc] at hy ⊢
              rw [List.length_append, List.length_singleton]
              rcases List.mem_append.mp hy with z | z
              · have : y ≠ f w m := fun e => hmem (e ▸ z)
                simp only [this, if_false]
                exact ⟨(hway' y z).1, fun a ha => Nat.lt_succ_of_lt ((hway' y z).2.1 a ha), (hway' y z).2.2⟩
              · have hy := List.mem_singleton.mp z
                subst hy
                simp only [if_true]
                obtain ⟨w1, w2, w3⟩ := hway' m hmf'
                refine ⟨by rw [inc_len, w1], inc_le w2, ?_⟩
                rw [inc_led N hw _ _ _ (by omega) hh, if_pos ⟨by omega, by omega⟩, w3]
            · intro v hv
              rw [← List.append_assoc]
              rcases List.mem_append.mp hv with z | z
              · exact List.mem_append_left _ (hdone v z)
              · rw [List.mem_singleton.mp z]; simp)
      have hl' := nodup_len nd' fun y hy => (hlt' y hy).1
      have gr := range1_nat (n := ins) (by omega)
      simp only [dn] at gr
      refine ⟨[some (MD n ins F), some l, some (dn h), x3', some (.dic (kD (fd ++ r) (wayD wv'))), some (.lst ((l0 ++ r).map dn)), some (dn m), x7', none, none, none, none, none, none, none, none], ?_, 2 * (n - (fd ++ r).length) + (l0 ++ r).length, ?_, fd ++ r, l0 ++ r, wv', x3', some (dn m), x7', rfl, nd', by simp [hin], hlt', ?_, ?_, ?_, hway', rfl⟩
      · refine seq_to (ρ1 := [some (MD n ins F), some l, some (dn h), x3, some (.dic (kD fd (wayD wv))), some (.lst (l0.map dn)), some (dn m), x7, none, none, none, none, none, none, none, none]) ?_ ?_
        · generalize (l0 ++ [m]).map dn = ll at *
          simp [q1, q2]
        · generalize (l0 ++ r).map dn = ll at *
          generalize kD (fd ++ r) (wayD wv') = kk at *
          simp only [ev_dFor]
          simp [gr]
          exact e
      · simp only [List.length_append, List.length_cons, List.length_nil] at hl' hll ⊢
        omega
      · intro y hy
        rcases List.mem_append.mp hy with z | z
        · exact List.mem_append_left _ (hsub y (by simp [z]))
        · exact List.mem_append_right _ z
      · simp only [List.length_append, List.length_cons, List.length_nil] at hl' hll ⊢
        omega
      · intro y hy
        rcases List.mem_append.mp hy with z | z
        · rcases hcl y z with h1 | h1
          · rcases List.mem_append.mp h1 with h2 | h2
            · exact .inl (List.mem_append_left _ h2)
            · rw [List.mem_singleton.mp h2]
              exact .inr fun w hw => hdone w (List.mem_range.mpr hw)
          · exact .inr fun w hw => List.mem_append_left _ (h1 w hw)
        · exact .inl (List.mem_append_right _ z)
    · have hne : ln = [] := by simpa using hb
      subst hne
      exact ⟨fd, wv, x3, x6, x7, rfl, nd, hin, hlt, fun y hy w hw => ((hcl y hy).resolve_left (by simp)) w hw, hway⟩
end
end L47
end
end
section
set_option Elab.async false
set_option linter.all false
set_option maxRecDepth 100000
noncomputable section
namespace PD
open L2
theorem cut_map {α : Type} (l : List α) (φ : α → D) (lo hi : Option Int) : ∃ r : List α, cutL (l.map φ) lo hi = r.map φ ∧ ∀ x ∈ r, x ∈ l := by
  unfold cutL
  refine ⟨(l.drop (HT.sIx (List.map φ l).length 0 lo)).take (HT.sIx (List.map φ l).length (List.map φ l).length hi - HT.sIx (List.map φ l).length 0 lo), ?_, fun x hx => List.mem_of_mem_drop (List.mem_of_mem_take hx)⟩
  rw [List.map_take, List.map_drop]
section
variable (f : Ev) (ρ : Rho) (xs : List D) (l u : Option Int)
@[simp] theorem ev_part0 {β : Type} (x : PySem.Value → Rho → β) (k : Option Int → Rho → Bool → Option β) : partB x none k ρ = k none ρ true := (rfl)
@[simp] theorem ev_part1 {β : Type} (x : PySem.Value → Rho → β) (k : Option Int → Rho → Bool → Option β) : partB x (some f) k ρ = bnd x f (fun r ρ1 p => match r with | .own (.int i) => k (some i) ρ1 p | _ => none) ρ := (rfl)
@[simp] theorem ev_gSlT : gSlT (.tup xs) l u = if immL xs then some (.tup (cutL xs l u)) else none := (rfl)
@[simp] theorem ev_gSlL : gSlL (.lst xs) l u = if immL xs then some (.lst (cutL xs l u)) else none := (rfl)
end
theorem repT1 {ins : Nat} (h : ins ≤ 100) : gRepT (.tup [.int 0]) (dn ins) = some (.tup ((List.replicate ins 0).map dn)) := by
  unfold gRepT
  have e1 : decide (-1000 ≤ (ins : Int) ∧ (ins : Int) ≤ 1000) = true := by rw [decide_eq_true_iff]; omega
  have e2 : (List.replicate ((ins : Int)).toNat [D.int 0]).flatten = (List.replicate ins 0).map dn := by
    rw [Int.toNat_natCast]
    clear e1 h
    induction ins with
    | zero => rfl
    | succ k ih => rw [List.replicate_succ, List.flatten_cons, ih, List.replicate_succ, List.map_cons]; rfl
  simp only [e1, e2]
  rfl
end PD
namespace L47
open PD L2 CM
section
variable {n ins : Nat} {F : Nat → Nat → Option (Nat × Int)} {f : Nat → Nat → Nat} {g : Nat → Nat → Int} {Lf tf : Nat → Nat} {h p : List Nat}
theorem both_comp {fd : List Nat} {wv : Nat → List Nat} {a b : Nat} (ha : a ∈ fd) (hb : b ∈ fd) {x0 x1 x2 x3 x5 x6 x7 x10 : Option D} (h1 : (wv a).length ≤ 100) (h2 : (wv b).length ≤ 100) :
    dLc [14, 15] (tTupG 2 (tsCons (tName 14) (tsCons (tName 15) (tsNil)))) (dIterL gZip (dCons (dIx gIxD (dVar 4) (dVar 8)) (dCons (dIx gIxD (dVar 4) (dVar 9)) (dNil)))) (dYes) (dOp gAdd (dVar 14) (dVar 15))
      [x0, x1, x2, x3, some (.dic (kD fd (wayD wv))), x5, x6, x7, some (dn a), some (dn b), x10, none, none, none, none, none] =
    some (.ok (.own (.lst ((List.zipWith (· + ·) (wv a) (wv b)).map dn))) [x0, x1, x2, x3, some (.dic (kD fd (wayD wv))), x5, x6, x7, some (dn a), some (dn b), x10, none, none, none, none, none] true) := by
  have hga : getD (kD fd (wayD wv)) (.inl (a : Int)) = some (wayD wv a) := by rw [getD_kD, if_pos ha]
  have hgb : getD (kD fd (wayD wv)) (.inl (b : Int)) = some (wayD wv b) := by rw [getD_kD, if_pos hb]
  have ez : zipL ((wv a).map dn) ((wv b).map dn) = ((wv a).zip (wv b)).map fun p => D.tup [dn p.1, dn p.2] := by
    unfold zipL
    rw [List.zip_map, List.map_map]; rfl
  have i1 : immL ((wv a).map dn) = true := immL_dn _
  have i2 : immL ((wv b).map dn) = true := immL_dn _
  have gz : gZip [.tup ((wv a).map dn), .tup ((wv b).map dn)] = some (((wv a).zip (wv b)).map fun p => D.tup [dn p.1, dn p.2]) := by
    unfold gZip
    simp only [i1, i2, Bool.and_self, if_true, ez]
  have c := dLc_pureG (vs := [14, 15]) (tg := tTupG 2 (tsCons (tName 14) (tsCons (tName 15) (tsNil)))) (tt := dYes) (fe := dOp gAdd (dVar 14) (dVar 15)) (fi := dIterL gZip (dCons (dIx gIxD (dVar 4) (dVar 8)) (dCons (dIx gIxD (dVar 4) (dVar 9)) (dNil))))
    (ρ := [x0, x1, x2, x3, some (.dic (kD fd (wayD wv))), x5, x6, x7, some (dn a), some (dn b), x10, none, none, none, none, none]) (φ := fun p : Nat × Nat => D.tup [dn p.1, dn p.2]) (xs := (wv a).zip (wv b)) (deps := []) (need := false) (b := fun _ => true) (y := fun p => dn (p.1 + p.2))
    (by simp [hga, hgb, wayD, gz]) (by simp) rfl (by rw [List.length_zip, lim_eq]; omega) (fun q hq => by
      obtain ⟨u, v⟩ := q
      refine ⟨_, rfl, rfl, fun _ => ?_, by simp⟩
      simp)
  rw [List.filter_eq_self.mpr (fun _ _ => rfl)] at c
  have e1 : ((wv a).zip (wv b)).map (fun p => dn (p.1 + p.2)) = (List.zipWith (· + ·) (wv a) (wv b)).map dn := by
    rw [List.zip_eq_zipWith, List.map_zipWith, List.map_zipWith]
  rw [e1] at c
  exact c
theorem group_right1 (S : Steps n ins F f g) (N : Net n ins f) (H : Home n ins f h p) (hb : n < 64) (hi : ins ≤ 100) :
    p__law_group_right [MD n ins F, .tup ((lotN n ins f).map dn), dn (ledF f h 0 0)] = some (.ok (.bl true) [none, none, none]) := by
  have hh : ledF f h 0 0 < n := (Cm.led N h 0 (by rw [H.hl]; omega)).lt 0 N.pos
  have hmem := fun m (hm : m < n) => H.from_ N hm
  have hmode : Again n ins f (ledF f h 0 0) := (hmem _ hh).mpr (.refl _)
  generalize ledF f h 0 0 = hm at *
  obtain ⟨x3, e1⟩ := wires_right S N H hb hi (x2 := some (dn hm))
  obtain ⟨fd, wv, x3', x6, x7, e2, nd, hfd, hway⟩ := ways_loop S N hb hi hh (l := .tup ((lotN n ins f).map dn)) (x3 := x3)
  have hfa : ∀ y, y ∈ fd ↔ Again n ins f y := fun y => by
    rw [hfd]
    constructor
    · intro r
      exact (hmem y (N.rc_lt hh r)).mpr r
    · intro a
      exact (hmem y a.1).mp a
  have hfl := nodup_len nd fun y hy => ((hfa y).mp hy).1
  have gs := gSortD_dn (v := wayD wv) (lot_sort nd hfa) (by omega)
  have gn := gNe_lst (lotN n ins f)
  have im : immL ((lotN n ins f).map dn) = true := immL_dn _
  obtain ⟨l1, c1, m1⟩ := cut_map (lotN n ins f) dn none (some 4)
  obtain ⟨l2, c2, m2⟩ := cut_map (lotN n ins f) dn (some (-4)) none
  have rep := repT1 hi
  simp only [dn] at rep
  -- the sums
  obtain ⟨ρ', e3, x8, x9, x10, rfl⟩ := for_mapped (tg := tName 8) (g := dFor [] (tName 9) (dIter1 tupI (dSl gSlT (dVar 1) (some (d1 gNeg (dC (.int 4)))) none)) (dSeq (dAsg (tName 10) (dCB gTupOf (dCons (dLc [14, 15] (tTupG 2 (tsCons (tName 14) (tsCons (tName 15) (tsNil)))) (dIterL gZip (dCons (dIx gIxD (dVar 4) (dVar 8)) (dCons (dIx gIxD (dVar 4) (dVar 9)) (dNil)))) (dYes) (dOp gAdd (dVar 14) (dVar 15))) (dNil))))
    (dSeq (dIfS (dB (dOp gNe (dCall p__law_led (dCons (dVar 0) (dCons (dVar 2) (dCons (dVar 10) (dNil))))) (dCall p__law_led (dCons (dVar 0) (dCons (dVar 8) (dCons (dIx gIxD (dVar 4) (dVar 9)) (dNil))))))) (dRet (dC (.bl false))) (dNil'))
    (dIfS (dB (dOp gNe (dCall p__law_led (dCons (dVar 0) (dCons (dVar 9) (dCons (dIx gIxD (dVar 4) (dVar 8)) (dNil))))) (dCall p__law_led (dCons (dVar 0) (dCons (dVar 8) (dCons (dIx gIxD (dVar 4) (dVar 9)) (dNil))))))) (dRet (dC (.bl false))) (dNil')))))
    (deps := []) (ρ0 := [some (MD n ins F), some (.tup ((lotN n ins f).map dn)), some (dn hm), x3', some (.dic (kD fd (wayD wv))), some (.lst []), x6, x7, none, none, none, none, none, none, none, none]) (φ := dn) (l := l1)
    (ρ := [some (MD n ins F), some (.tup ((lotN n ins f).map dn)), some (dn hm), x3', some (.dic (kD fd (wayD wv))), some (.lst []), x6, x7, none, none, none, none, none, none, none, none])
    (fun _ ρ => ∃ x8 x9 x10, ρ = [some (MD n ins F), some (.tup ((lotN n ins f).map dn)), some (dn hm), x3', some (.dic (kD fd (wayD wv))), some (.lst []), x6, x7, x8, x9, x10, none, none, none, none, none]) (fun _ _ _ => rfl) ⟨none, none, none, rfl⟩ (by
      rintro a one b ρ hl ⟨x8, x9, x10, rfl⟩
      have h1 : one ∈ fd := (hfa one).mpr (lot_mem.mp (m1 one (by rw [hl]; simp)))
      have h1n := ((hfa one).mp h1).1
      obtain ⟨w11, w12, w13⟩ := hway one h1
      obtain ⟨ρ', e, x9', x10', rfl⟩ := for_mapped (tg := tName 9) (g := dSeq (dAsg (tName 10) (dCB gTupOf (dCons (dLc [14, 15] (tTupG 2 (tsCons (tName 14) (tsCons (tName 15) (tsNil)))) (dIterL gZip (dCons (dIx gIxD (dVar 4) (dVar 8)) (dCons (dIx gIxD (dVar 4) (dVar 9)) (dNil)))) (dYes) (dOp gAdd (dVar 14) (dVar 15))) (dNil))))
          (dSeq (dIfS (dB (dOp gNe (dCall p__law_led (dCons (dVar 0) (dCons (dVar 2) (dCons (dVar 10) (dNil))))) (dCall p__law_led (dCons (dVar 0) (dCons (dVar 8) (dCons (dIx gIxD (dVar 4) (dVar 9)) (dNil))))))) (dRet (dC (.bl false))) (dNil'))
          (dIfS (dB (dOp gNe (dCall p__law_led (dCons (dVar 0) (dCons (dVar 9) (dCons (dIx gIxD (dVar 4) (dVar 8)) (dNil))))) (dCall p__law_led (dCons (dVar 0) (dCons (dVar 8) (dCons (dIx gIxD (dVar 4) (dVar 9)) (dNil))))))) (dRet (dC (.bl false))) (dNil'))))
        (deps := []) (ρ0 := [some (MD n ins F), some (.tup ((lotN n ins f).map dn)), some (dn hm), x3', some (.dic (kD fd (wayD wv))), some (.lst []), x6, x7, some (dn one), x9, x10, none, none, none, none, none]) (φ := dn) (l := l2)
        (ρ := [some (MD n ins F), some (.tup ((lotN n ins f).map dn)), some (dn hm), x3', some (.dic (kD fd (wayD wv))), some (.lst []), x6, x7, some (dn one), x9, x10, none, none, none, none, none])
        (fun _ ρ => ∃ x9 x10, ρ = [some (MD n ins F), some (.tup ((lotN n ins f).map dn)), some (dn hm), x3', some (.dic (kD fd (wayD wv))), some (.lst []), x6, x7, some (dn one), x9, x10, none, none, none, none, none]) (fun _ _ _ => rfl) ⟨x9, x10, rfl⟩ (by
          rintro a2 other b2 ρ hl2 ⟨x9, x10, rfl⟩
          have h2 : other ∈ fd := (hfa other).mpr (lot_mem.mp (m2 other (by rw [hl2]; simp)))
          have h2n := ((hfa other).mp h2).1
          obtain ⟨w21, w22, w23⟩ := hway other h2
          have cc := both_comp h1 h2 (wv := wv) (x0 := some (MD n ins F)) (x1 := some (.tup ((lotN n ins f).map dn))) (x2 := some (dn hm)) (x3 := x3') (x5 := some (.lst [])) (x6 := x6) (x7 := x7) (x10 := x10) (by omega) (by omega)
          have hga : getD (kD fd (wayD wv)) (.inl (one : Int)) = some (.tup ((wv one).map dn)) := by rw [getD_kD, if_pos h1]; rfl
          have hgb : getD (kD fd (wayD wv)) (.inl (other : Int)) = some (.tup ((wv other).map dn)) := by rw [getD_kD, if_pos h2]; rfl
          have r1 := law_led1 S hh (List.zipWith (· + ·) (wv one) (wv other)) (by rw [List.length_zipWith]; omega) (fun a ha => by
            obtain ⟨i, hi, rfl⟩ := List.getElem_of_mem ha
            rw [List.getElem_zipWith]
            have := w12 _ (List.getElem_mem (l := wv one) (n := i) (by rw [List.length_zipWith] at hi; omega))
            have := w22 _ (List.getElem_mem (l := wv other) (n := i) (by rw [List.length_zipWith] at hi; omega))
            omega)
          have r2 := law_led1 S h1n (wv other) (by omega) (fun a ha => by have := w22 a ha; omega)
          have r3 := law_led1 S h2n (wv one) (by omega) (fun a ha => by have := w12 a ha; omega)
          have s1 : ledF f (wv other) 0 one = ledF f (wv one) 0 other := by
            conv => lhs; rw [← w13]
            conv => rhs; rw [← w23]
            exact Cm.swap N (Cm.led N (wv other) 0 (by omega)) (Cm.led N (wv one) 0 (by omega)) hm hh
          have s2 : ledF f (List.zipWith (· + ·) (wv one) (wv other)) 0 hm = ledF f (wv one) 0 other := by
            rw [ledF_add N _ _ _ _ (by omega) (by omega) hh, w23]
          rw [s2] at r1
          rw [s1] at r2
          have gd := gNe_dn (ledF f (wv one) 0 other) (ledF f (wv one) 0 other)
          rw [decide_eq_true rfl] at gd
          generalize ledF f (wv one) 0 other = tt at *
          have i1 : immL ((List.zipWith (· + ·) (wv one) (wv other)).map dn) = true := immL_dn _
          have i2 : immL ((wv one).map dn) = true := immL_dn _
          have i3 : immL ((wv other).map dn) = true := immL_dn _
          refine ⟨_, [some (MD n ins F), some (.tup ((lotN n ins f).map dn)), some (dn hm), x3', some (.dic (kD fd (wayD wv))), some (.lst []), x6, x7, some (dn one), some (dn other), some (.tup ((List.zipWith (· + ·) (wv one) (wv other)).map dn)), none, none, none, none, none], rfl, .inl ?_, _, _, rfl⟩
          generalize (List.zipWith (· + ·) (wv one) (wv other)).map dn = v1 at *
          generalize (wv one).map dn = v2 at *
          generalize (wv other).map dn = v3 at *
          generalize kD fd (wayD wv) = kk at *
          generalize dLc [14, 15] = dl at *
          generalize (lotN n ins f).map dn = lt at *
          refine seq_to (ρ1 := [some (MD n ins F), some (.tup lt), some (dn hm), x3', some (.dic kk), some (.lst []), x6, x7, some (dn one), some (dn other), some (.tup v1), none, none, none, none, none]) (by simp [cc, i1]) ?_
          refine seq_to (ρ1 := [some (MD n ins F), some (.tup lt), some (dn hm), x3', some (.dic kk), some (.lst []), x6, x7, some (dn one), some (dn other), some (.tup v1), none, none, none, none, none]) ?_ ?_
          · simp [i1, i3, im, r1, hgb, r2, gd]
          · simp [i2, i3, im, hga, r3, hgb, r2, gd])
      refine ⟨_, _, rfl, .inl ?_, some (dn one), x9', x10', rfl⟩
      generalize (lotN n ins f).map dn = lt at *
      generalize kD fd (wayD wv) = kk at *
      simp [im, c2]
      exact e)
  generalize (lotN n ins f).map dn = lt at *
  have e2' : dWhile _ _ 1000 [some (MD n ins F), some (.tup lt), some (dn hm), x3, some (.dic [(.inl (hm : Int), .tup ((List.replicate ins 0).map dn))]), some (.lst [dn hm]), none, none, none, none, none, none, none, none, none, none] = _ := e2
  have i0 : immL ((List.replicate ins 0).map dn) = true := immL_dn _
  generalize (List.replicate ins 0).map dn = v0 at *
  generalize kD fd (wayD wv) = kk at *
  refine (def_ret (d := .bl true) (ρ := [some (MD n ins F), some (.tup lt), some (dn hm), x3', some (.dic kk), some (.lst []), x6, x7, x8, x9, x10, none, none, none, none, none]) rfl ?_).trans rfl
  refine seq_to e1 ?_
  refine seq_to (ρ1 := [some (MD n ins F), some (.tup lt), some (dn hm), x3, some (.dic [(.inl (hm : Int), .tup v0)]), some (.lst [dn hm]), none, none, none, none, none, none, none, none, none, none]) (by simp [rep, i0, lim_eq]) ?_
  refine seq_to e2' ?_
  refine seq_to (ρ1 := [some (MD n ins F), some (.tup lt), some (dn hm), x3', some (.dic kk), some (.lst []), x6, x7, none, none, none, none, none, none, none, none]) (by simp [gs, im, gn]) ?_
  refine seq_to (ρ1 := [some (MD n ins F), some (.tup lt), some (dn hm), x3', some (.dic kk), some (.lst []), x6, x7, x8, x9, x10, none, none, none, none, none]) (by simp [im, c1]; exact e3) ?_
  simp
end
end L47
end
end
section
set_option Elab.async false
set_option linter.all false
set_option maxRecDepth 100000
noncomputable section
namespace PD
open L2
@[simp] theorem ev_gCatT (xs ys : List D) : gCatT (.tup xs) (.tup ys) = if immL xs && immL ys && decide (xs.length + ys.length ≤ LIM) then some (.tup (xs ++ ys)) else none := (rfl)
@[simp] theorem ev_gCat (xs ys : List D) : gCat (.lst xs) (.lst ys) = if immL xs && immL ys && decide (xs.length + ys.length ≤ LIM) then some (.lst (xs ++ ys)) else none := (rfl)
@[simp] theorem immL_app (xs ys : List D) : immL (xs ++ ys) = (immL xs && immL ys) := by
  induction xs with
  | nil => rfl
  | cons a r ih => rw [List.cons_append, immL, immL, ih, Bool.and_assoc]
theorem ev_dTry (s1 s2 : PySem.Str) (c : PySem.Value) (fb : Ev) (ρ : Rho) : dTry s1 s2 c fb ρ = match fb ρ with
  | some (.ok r ρ1 p) => (takeR ρ1 r).map fun z => .ok (.own (.tup [.str s1, z.1])) z.2 false
  | some (.exc c' ρ1) => if c' = c then some (.ok (.own (.tup [.str s2])) ρ1 false) else none
  | none => none := rfl
/-! ### texts of numbers -/
theorem rOk_dn {m : Nat} (h : m < 1000) : (dn m).rOk = true := by
  simp only [dn, D.rOk, decide_eq_true_eq, Int.natAbs_natCast]
  have : m.log2 ≤ 10 := by
    rcases Nat.eq_zero_or_pos m with h0 | h0
    · subst h0; decide
    · have := (Nat.log2_lt (n := m) (k := 10) (by omega)).mpr (by omega)
      omega
  omega
theorem rOk_int {i : Int} (h : i.natAbs < 1000) : (D.int i).rOk = true := by
  simp only [D.rOk, decide_eq_true_eq]
  have : i.natAbs.log2 ≤ 10 := by
    rcases Nat.eq_zero_or_pos i.natAbs with h0 | h0
    · rw [h0]; decide
    · have := (Nat.log2_lt (n := i.natAbs) (k := 10) (by omega)).mpr (by omega)
      omega
  omega
theorem rOkL_map {α : Type} (φ : α → D) : ∀ l : List α, (∀ x ∈ l, (φ x).rOk = true) → rOkL (l.map φ) = true
  | [], _ => rfl
  | a :: r, h => by
    rw [List.map_cons, rOkL, h a (by simp), rOkL_map φ r fun x hx => h x (by simp [hx])]; rfl
theorem rLenL_map {α : Type} (φ : α → D) (b : Nat) : ∀ l : List α, (∀ x ∈ l, (φ x).rLen ≤ b) → rLenL (l.map φ) ≤ (b + 2) * l.length
  | [], _ => by simp [rLenL]
  | a :: r, h => by
    rw [List.map_cons, rLenL, List.length_cons, Nat.mul_succ]
    have := h a (by simp)
    have := rLenL_map φ b r fun x hx => h x (by simp [hx])
    omega
theorem depL_map {α : Type} (φ : α → D) (b : Nat) : ∀ l : List α, (∀ x ∈ l, (toP (φ x)).depth ≤ b) → PySem.PyData.depthAll (toPL (l.map φ)) ≤ b
  | [], _ => by simp [toPL, PySem.PyData.depthAll]
  | a :: r, h => by
    rw [List.map_cons, toPL, PySem.PyData.depthAll]
    have := h a (by simp)
    have := depL_map φ b r fun x hx => h x (by simp [hx])
    omega
theorem dns_ok {l : List Nat} (h : ∀ x ∈ l, x < 1000) : (D.tup (l.map dn)).rOk = true ∧ (D.tup (l.map dn)).rLen ≤ 5 + 21 * l.length ∧ (toP (.tup (l.map dn))).depth ≤ 1 := by
  refine ⟨?_, ?_, ?_⟩
  · rw [D.rOk]; exact rOkL_map dn l fun x hx => rOk_dn (h x hx)
  · rw [D.rLen]
    have := rLenL_map dn 19 l fun x _ => Nat.le_refl _
    omega
  · rw [toP, PySem.PyData.depth]
    have := depL_map dn 0 l fun x _ => Nat.le_refl _
    omega
end PD
namespace L47
open PD L2 CM
section
variable {n ins : Nat} {F : Nat → Nat → Option (Nat × Int)} {f : Nat → Nat → Nat} {g : Nat → Nat → Int} {Lf tf : Nat → Nat} {h p : List Nat}
theorem cut_tail (ins : Nat) (φ : Nat → D) : cutL ((List.range (ins + 1)).map φ) (some 1) none = (List.range ins).map fun w => φ (w + 1) := by
  unfold cutL
  have e1 : ∀ n d : Nat, HT.sIx n d (some 1) = min 1 n := fun n d => HT.sIx_nat n d 1
  rw [e1, HT.sIx_none, List.length_map, List.length_range, show min 1 (ins + 1) = 1 by omega, List.range_succ_eq_map, List.map_cons, List.drop_succ_cons, List.drop_zero, List.map_map, List.take_of_length_le (by simp)]
  rfl
theorem cut_two (a b c : D) : cutL [a, b, c] none (some 2) = [a, b] := rfl
/-- a wire never -/
def nevF (F : Nat → Nat → Option (Nat × Int)) : Nat → Nat → Option (Nat × Int) := fun w m => if w = 0 then none else F w m
/-- a mode more, not come to -/
def idlF (n : Nat) (F : Nat → Nat → Option (Nat × Int)) : Nat → Nat → Option (Nat × Int) := fun w m => if m = n then none else F w m
theorem idl_steps (S : Steps n ins F f g) : Steps n ins (idlF n F) f g := ⟨fun w m hw hm => by
  unfold idlF
  rw [if_neg (by omega)]
  exact S.at_ w m hw hm, S.lt⟩
theorem nev_closed (S : Steps n ins F f g) : Closed n ins (nevF F) := fun m hm k hk => by
  unfold nxs at hk
  obtain ⟨w, hw, e⟩ := List.mem_filterMap.mp hk
  have e : Option.map (fun x : Nat × Int => x.1) (nevF F w m) = some k := e
  unfold nevF at e
  split at e
  · cases e
  · rw [S.at_ w m (List.mem_range.mp hw) hm] at e
    simp at e; subst e
    exact S.lt w m (List.mem_range.mp hw) hm
theorem never_right1 {c : PySem.Value} (S : Steps n (ins + 1) F f g) (N : Net n (ins + 1) f) (X : Lns n (ins + 1) f Lf tf) (hb : n < 64) (hi : ins ≤ 10) :
    p__law_never_right c [MD n (ins + 1) F] = some (.ok (.bl true) [none]) := by
  -- the machine that never rests
  have nd := need_no (c := c) (F := nevF F) (ins := ins + 1) N.pos (Nat.le_refl n) (by omega) (by omega) (nev_closed S) (w := 0) (by omega) rfl
  have n1 : p_home_input c [MD n (ins + 1) (nevF F)] = some (.exc c [none]) := by
    simp only [p_home_input, defD_eq, g_home_input]
    simp [nd]
  have n2 : p_home_mode c [MD n (ins + 1) (nevF F)] = some (.exc c [none]) := by
    simp only [p_home_mode, defD_eq, g_home_mode]
    simp [n1]
  have n3 : p_modes_again c [MD n (ins + 1) (nevF F)] = some (.exc c [none]) := by
    simp only [p_modes_again, defD_eq, g_modes_again]
    simp [n2]
  -- the one with a mode more
  have a1 := modes_again1 (c := c) S N X (Nat.le_refl n) (by omega) hb (by omega)
  have a2 := modes_again1 (c := c) (idl_steps S) N X (Nat.le_succ n) (by omega) hb (by omega)
  have ll := lot_len (n := n) (ins := ins + 1) (f := f)
  obtain ⟨d1, d2, d3⟩ := dns_ok (l := lotN n (ins + 1) f) (fun x hx => by have := (lot_mem.mp hx).1; omega)
  obtain ⟨s1, r1, r2, r3⟩ := repr_ok d1 (by omega) (by omega)
  obtain ⟨s2, u1, u2, u3⟩ := repr_ok (d := .lst [.tup [.str "not of it"], .tup [.str "not of it"], .tup [.str "not of it"]]) (by decide +kernel) (by decide +kernel) (by decide +kernel)
  have rep3 : gRep (.lst [.tup [.str "not of it"]]) (.int 3) = some (.lst [.tup [.str "not of it"], .tup [.str "not of it"], .tup [.str "not of it"]]) := by decide +kernel
  -- rows
  have c1 := dLc_pureG (vs := [5]) (tg := tName 5) (tt := dYes) (fe := dOp gCatT (dTup (dCons (dC .non) (dNil))) (dSl gSlT (dVar 5) (some (dC (.int 1))) none)) (fi := dIter1 tupI (dIx gIxT (dVar 0) (dC (.int 2))))
    (ρ := [some (MD n (ins + 1) F), none, none, none, none, none]) (φ := fun m => rwD (ins + 1) fun w => F w m) (xs := List.range n) (deps := []) (need := false) (b := fun _ => true) (y := fun m => rwD (ins + 1) fun w => nevF F w m)
    (by simp) (by simp) rfl (by simp [lim_eq]; omega) (fun m hm => by
      have e1 : rwD (ins + 1) (fun w => nevF F w m) = .tup ([.non] ++ (List.range ins).map fun w => stD (F (w + 1) m)) := by
        unfold rwD
        rw [List.range_succ_eq_map, List.map_cons, List.map_map]
        congr 1
      have e2 := cut_tail ins fun w => stD (F w m)
      have im : immL ((List.range (ins + 1)).map fun w => stD (F w m)) = true := by simp
      have im2 : immL ((List.range ins).map fun w => stD (F (w + 1) m)) = true := by simp
      refine ⟨_, rfl, rfl, fun _ => ?_, by simp⟩
      rw [e1]
      have hl : ((List.range ins).map fun w => stD (F (w + 1) m)).length ≤ 100 := by simp; omega
      unfold rwD
      generalize (List.range (ins + 1)).map (fun w => stD (F w m)) = row at *
      generalize (List.range ins).map (fun w => stD (F (w + 1) m)) = row2 at *
      have hl2 : 1 + row2.length ≤ LIM := by rw [lim_eq]; omega
      have hl3 : row2.length + 1 ≤ LIM := by rw [lim_eq]; omega
      simp [im, e2, im2, hl2, hl3, lim_eq]
      omega)
  rw [List.filter_eq_self.mpr (fun _ _ => rfl)] at c1
  have im1 : immL ((List.range n).map fun m => rwD (ins + 1) fun w => F w m) = true := by simp
  have im2 : immL ((List.range n).map fun m => rwD (ins + 1) fun w => nevF F w m) = true := by simp
  have ml : ((List.range n).map fun m => rwD (ins + 1) fun w => F w m).length ≤ 100 := by simp; omega
  have eN : MD n (ins + 1) (nevF F) = .tup [dn (ins + 1), .int 1, .tup ((List.range n).map fun m => rwD (ins + 1) fun w => nevF F w m)] := rfl
  have eM : MD n (ins + 1) F = .tup [dn (ins + 1), .int 1, .tup ((List.range n).map fun m => rwD (ins + 1) fun w => F w m)] := rfl
  have eI : MD (n + 1) (ins + 1) (idlF n F) = .tup [dn (ins + 1), .int 1, .tup (((List.range n).map fun m => rwD (ins + 1) fun w => F w m) ++ [.tup (List.replicate (ins + 1) .non)])] := by
    unfold MD
    congr 4
    rw [List.range_succ, List.map_append]
    have app : ∀ {a b c d : List D}, a = b → c = d → a ++ c = b ++ d := by
      rintro _ _ _ _ rfl rfl; rfl
    refine congrArg D.tup (app ?_ ?_)
    · apply List.map_congr_left
      intro m hm
      have : m ≠ n := by have := List.mem_range.mp hm; omega
      simp [idlF, this]
    · have : ∀ k, (List.range k).map (fun _ => D.non) = List.replicate k .non := fun k => by
        induction k with
        | zero => rfl
        | succ k ih => rw [List.range_succ, List.map_append, ih, List.replicate_succ']; rfl
      simp [rwD, idlF, stD, this]
  have imr : ∀ k, immL (List.replicate k D.non) = true := fun k => by
    induction k with
    | zero => rfl
    | succ k ih => rw [List.replicate_succ, immL, ih]; rfl
  have gr : gRepT (.tup [.non]) (dn (ins + 1)) = some (.tup (List.replicate (ins + 1) .non)) := by
    unfold gRepT
    have e1 : decide (-1000 ≤ ((ins + 1 : Nat) : Int) ∧ ((ins + 1 : Nat) : Int) ≤ 1000) = true := by rw [decide_eq_true_iff]; omega
    have e2 : (List.replicate (((ins + 1 : Nat) : Int)).toNat [D.non]).flatten = List.replicate (ins + 1) .non := by
      rw [Int.toNat_natCast]
      have : ∀ k, (List.replicate k [D.non]).flatten = List.replicate k .non := fun k => by
        induction k with
        | zero => rfl
        | succ k ih => rw [List.replicate_succ, List.flatten_cons, ih, List.replicate_succ]; rfl
      exact this _
    simp only [e1, e2]
    rfl
  have imq := imr (ins + 1)
  rw [eI] at a2
  rw [eN] at n1 n2 n3
  rw [eM] at a1 c1 ⊢
  generalize (List.range n).map (fun m => rwD (ins + 1) fun w => F w m) = rows at *
  generalize (List.range n).map (fun m => rwD (ins + 1) fun w => nevF F w m) = nrows at *
  generalize List.replicate (ins + 1) D.non = row0 at *
  simp only [dn] at gr
  clear eI eN eM nd
  generalize D.tup ((lotN n (ins + 1) f).map dn) = lt at *
  clear S N X
  generalize lotN n (ins + 1) f = lt0 at *
  generalize ins + 1 = I at *
  have hl1 : rows.length + 1 ≤ LIM := by rw [lim_eq]; omega
  refine (def_ret (d := .bl true) (ρ := [some (.tup [dn (I), .int 1, .tup rows]), some (.tup [dn (I), .int 1, .tup (rows ++ [.tup row0])]), some (.lst [.tup [.str "not of it"], .tup [.str "not of it"], .tup [.str "not of it"]]), some (.lst [.tup [.str "not of it"], .tup [.str "not of it"], .tup [.str "not of it"]]), some (.tup [dn (I), .int 1, .tup nrows]), none]) rfl ?_).trans rfl
  refine seq_to (ρ1 := [some (.tup [dn (I), .int 1, .tup rows]), none, none, none, some (.tup [dn (I), .int 1, .tup nrows]), none]) (by simp [im1, cut_two, c1, im2, lim_eq]) ?_
  refine seq_to (ρ1 := [some (.tup [dn (I), .int 1, .tup rows]), some (.tup [dn (I), .int 1, .tup (rows ++ [.tup row0])]), none, none, some (.tup [dn (I), .int 1, .tup nrows]), none]) (by simp [im1, cut_two, gr, imq, show rows.length ≤ 99999 by omega, immL_app, lim_eq]) ?_
  refine seq_to (ρ1 := [some (.tup [dn (I), .int 1, .tup rows]), some (.tup [dn (I), .int 1, .tup (rows ++ [.tup row0])]), some (.lst [.tup [.str "not of it"]]), none, some (.tup [dn (I), .int 1, .tup nrows]), none]) (by simp [ev_dTry, im2, n1, lim_eq]) ?_
  refine seq_to (ρ1 := [some (.tup [dn (I), .int 1, .tup rows]), some (.tup [dn (I), .int 1, .tup (rows ++ [.tup row0])]), some (.lst [.tup [.str "not of it"], .tup [.str "not of it"]]), none, some (.tup [dn (I), .int 1, .tup nrows]), none]) (by simp [ev_dTry, im2, n3, lim_eq]) ?_
  refine seq_to (ρ1 := [some (.tup [dn (I), .int 1, .tup rows]), some (.tup [dn (I), .int 1, .tup (rows ++ [.tup row0])]), some (.lst [.tup [.str "not of it"], .tup [.str "not of it"], .tup [.str "not of it"]]), none, some (.tup [dn (I), .int 1, .tup nrows]), none]) (by simp [ev_dTry, im2, n2, lim_eq]) ?_
  refine seq_to (ρ1 := [some (.tup [dn (I), .int 1, .tup rows]), some (.tup [dn (I), .int 1, .tup (rows ++ [.tup row0])]), some (.lst [.tup [.str "not of it"], .tup [.str "not of it"], .tup [.str "not of it"]]), some (.lst [.tup [.str "not of it"], .tup [.str "not of it"], .tup [.str "not of it"]]), some (.tup [dn (I), .int 1, .tup nrows]), none]) (by simp [rep3, lim_eq]) ?_
  simp [u1, u2, r1, r2, a1, a2, im1, imq, immL_app]
end
end L47
end
end
section
set_option Elab.async false
set_option linter.all false
set_option maxRecDepth 100000
noncomputable section
namespace L47
open PD L2 CM
theorem pick_eq : p__law_pick = pPick := rfl
theorem of_eq : p__law_of = pOf := rfl
theorem mixed_eq : p__law_mixed = pMixed := rfl
theorem source_eq : p__law_source = pSource := rfl
/-- a machine that is as it should be -/
structure Good (d : D) : Prop where
  ex : ∃ (n ins : Nat) (F : Nat → Nat → Option (Nat × Int)) (f : Nat → Nat → Nat) (g : Nat → Nat → Int), d = MD n (ins + 1) F ∧ Steps n (ins + 1) F f g ∧ Net n (ins + 1) f ∧ n < 64 ∧ ins ≤ 5 ∧ ∀ w m, (g w m).natAbs < 1000
section
/-! ### the summed machine -/
def nxN (n many k : Nat) : Nat := if k + 1 < n then k + 1 else many
def gsum (nx : Nat → Nat) (nf : Nat → Int) : Nat → Nat → Int
  | 0, _ => 0
  | s + 1, k => gsum nx nf s k + nf (it nx s k)
theorem gsum_le {nx : Nat → Nat} {nf : Nat → Int} (h : ∀ k, 0 ≤ nf k ∧ nf k ≤ 1) : ∀ s k, 0 ≤ gsum nx nf s k ∧ gsum nx nf s k ≤ s
  | 0, _ => ⟨Int.le_refl _, Int.le_refl _⟩
  | s + 1, k => by
    have := gsum_le (nx := nx) h s k
    have := h (it nx s k)
    unfold gsum
    omega
theorem nxN_lt {n many k : Nat} (h : many < n) (hk : k < n) : nxN n many k < n := by
  unfold nxN; split <;> omega
theorem summed_net {n many : Nat} (h : many < n) (sh : List Nat) (h1 : sh[0]? = some 1) : Net n sh.length (fun w m => it (nxN n many) (sh.getD w 0) m) where
  pos := by omega
  lt := fun w m _ hm => it_lt (fun x hx => nxN_lt h hx) hm _
  comm := fun v w m _ _ _ => by rw [← it_add, ← it_add, Nat.add_comm]
  all := fun m hm => by
    have hl : 0 < sh.length := by
      have := (List.getElem?_eq_some_iff.mp h1).1
      exact this
    have e0 : ∀ m, it (nxN n many) (sh.getD 0 0) m = nxN n many m := fun m => by
      have : sh.getD 0 0 = 1 := by simp [h1]
      rw [this]; rfl
    induction m with
    | zero => exact .refl 0
    | succ k ih =>
      have r := ih (by omega)
      have e : (fun w m => it (nxN n many) (sh.getD w 0) m) 0 k = k + 1 := by
        show it (nxN n many) (sh.getD 0 0) k = k + 1
        rw [e0]; unfold nxN; rw [if_pos hm]
      rw [← e]
      exact .tail r hl
theorem range_getD {α : Type} (φ : Nat → α) (l : List Nat) : (List.range l.length).map (fun w => φ (l.getD w 0)) = l.map φ := by
  apply List.ext_getElem
  · simp
  · intro i h1 h2
    simp at h1
    simp [h1]
theorem summed1 {s : D} (hs : IsSrc s) {many back : Nat} (hb : 0 < back) (hn : many + back < 20) {sh : List Nat} (h1 : sh[0]? = some 1) (hl : sh.length ≤ 6) (h4 : ∀ x ∈ sh, x ≤ 4) :
    ∃ d s', p__law_summed [s, dn many, dn back, .lst (sh.map dn)] = some (.ok d [some s', none, none, some (.lst (sh.map dn))]) ∧ IsSrc s' ∧ Good d := by
  generalize hnn : many + back = n at *
  have gr := range1_nat (n := n) (by omega)
  have e0 : ((many : Int) + (back : Int)) = (n : Int) := by omega
  -- numbers
  obtain ⟨ρ', acc, p', e1, s', nf, rfl, hs', rfl, hnf⟩ := dLc_map (vs := [4]) (tg := tName 4) (tt := dYes) (fe := dCall p__law_of (dCons (dVar 0) (dCons (dLst (dCons (dC (.int 0)) (dCons (dC (.int 1)) (dNil)))) (dNil))))
    (fi := dIterL gRange1 (dCons (dOp gAdd (dVar 1) (dVar 2)) (dNil))) (ρ := [some s, some (dn many), some (dn back), some (.lst (sh.map dn)), none, none, none, none, none, none, none, none]) (ρ1 := [some s, some (dn many), some (dn back), some (.lst (sh.map dn)), none, none, none, none, none, none, none, none]) (deps := []) (φ := dn) (l := List.range n) (p0 := true)
    (fun done ρ acc => ∃ (s' : D) (nf : Nat → Int), ρ = [some s', some (dn many), some (dn back), some (.lst (sh.map dn)), none, none, none, none, none, none, none, none] ∧ IsSrc s' ∧ acc = (List.range done.length).map (fun k => D.int (nf k)) ∧ ∀ k, 0 ≤ nf k ∧ nf k ≤ 1)
    (by simp only [dn] at gr; simp [e0, gr]) (by simp) (by simp) (fun _ _ _ _ => rfl) ⟨s, fun _ => 0, rfl, hs, rfl, by simp⟩ (by
      rintro a k b ρ acc hl ⟨s', nf, rfl, hs', rfl, hnf⟩
      obtain ⟨ha, hk, -⟩ := range_split hl
      obtain ⟨y, s2, e2, hs2, hy⟩ := of_ok hs' (xs := [.int 0, .int 1]) (by simp) rfl (by simp)
      obtain ⟨z, rfl, hz⟩ : ∃ z : Int, y = .int z ∧ 0 ≤ z ∧ z ≤ 1 := by
        simp at hy
        rcases hy with rfl | rfl
        · exact ⟨0, rfl, by omega⟩
        · exact ⟨1, rfl, by omega⟩
      obtain ⟨c1, c2, c3, c4, rfl, -⟩ := hs'.ex
      obtain ⟨c5, c6, c7, c8, rfl, -⟩ := hs2.ex
      refine ⟨_, rfl, .inl ⟨_, true, .own (.int z), [some (srcD c5 c6 c7 c8), some (dn many), some (dn back), some (.lst (sh.map dn)), some (dn k), none, none, none, none, none, none, none], false, .int z, _, rfl, ?_, rfl, by simp [lim_eq]; omega, srcD c5 c6 c7 c8, fun i => if i = k then z else nf i, rfl, hs2, ?_, ?_⟩⟩
      · simp [of_eq, e2, lim_eq]
      · rw [List.length_append, ha, List.length_singleton, List.range_succ, List.map_append]
        congr 1
        · apply List.map_congr_left
          intro i hi
          have : i ≠ k := by have := List.mem_range.mp hi; omega
          simp [this]
        · simp
      · intro i
        by_cases hik : i = k
        · simp [hik]; omega
        · simp only [hik, if_false]; exact hnf i)
  rw [List.length_range] at e1
  have hgn : ∀ k, k < n → atI ((List.range n).map fun k => D.int (nf k)) (k : Int) = some (.int (nf k)) := fun k hk => atI_range hk
  generalize hnm : (List.range n).map (fun k => D.int (nf k)) = nums at *
  have hmn : many < n := by omega
  -- the rows
  obtain ⟨c1, c2, c3, c4, rfl, -⟩ := hs'.ex
  generalize hsd : srcD c1 c2 c3 c4 = sd at *
  have lap : ∀ k, k < n → ∀ (S : Nat), S ≤ 4 → ∀ (st ln x11 : Option D), ∃ x11', dForL (tName 11) (dSeq (dAsg (tName 10) (dOp gAdd (dVar 10) (dIx gIxL (dVar 5) (dVar 9))))
      (dAsg (tName 9) (dIf (dB (dOp gLt (dOp gAdd (dVar 9) (dC (.int 1))) (dOp gAdd (dVar 1) (dVar 2)))) (dOp gAdd (dVar 9) (dC (.int 1))) (dVar 1)))) []
      [some sd, some (dn many), some (dn back), some (.lst (sh.map dn)), some (dn k), some (.lst nums), st, ln, some (dn S), some (dn k), some (.int 0), x11] ((List.range S).map dn)
      [some sd, some (dn many), some (dn back), some (.lst (sh.map dn)), some (dn k), some (.lst nums), st, ln, some (dn S), some (dn k), some (.int 0), x11] =
      some (.nx [some sd, some (dn many), some (dn back), some (.lst (sh.map dn)), some (dn k), some (.lst nums), st, ln, some (dn S), some (dn (it (nxN n many) S k)), some (.int (gsum (nxN n many) nf S k)), x11']) := by
    intro k hk S hS st ln x11
    obtain ⟨ρ', e, x11', rfl⟩ := for_mapped (tg := tName 11) (g := dSeq (dAsg (tName 10) (dOp gAdd (dVar 10) (dIx gIxL (dVar 5) (dVar 9))))
        (dAsg (tName 9) (dIf (dB (dOp gLt (dOp gAdd (dVar 9) (dC (.int 1))) (dOp gAdd (dVar 1) (dVar 2)))) (dOp gAdd (dVar 9) (dC (.int 1))) (dVar 1)))) (deps := [])
      (ρ0 := [some sd, some (dn many), some (dn back), some (.lst (sh.map dn)), some (dn k), some (.lst nums), st, ln, some (dn S), some (dn k), some (.int 0), x11]) (φ := dn) (l := List.range S)
      (ρ := [some sd, some (dn many), some (dn back), some (.lst (sh.map dn)), some (dn k), some (.lst nums), st, ln, some (dn S), some (dn k), some (.int 0), x11])
      (fun done ρ => ∃ x11, ρ = [some sd, some (dn many), some (dn back), some (.lst (sh.map dn)), some (dn k), some (.lst nums), st, ln, some (dn S), some (dn (it (nxN n many) done.length k)), some (.int (gsum (nxN n many) nf done.length k)), x11])
      (fun _ _ _ => rfl) ⟨x11, rfl⟩ (by
        rintro a j b ρ hl ⟨x11, rfl⟩
        have hlt : it (nxN n many) a.length k < n := it_lt (fun x hx => nxN_lt hmn hx) hk _
        have e4 : it (nxN n many) (a ++ [j]).length k = nxN n many (it (nxN n many) a.length k) := by rw [List.length_append]; rfl
        have e5 : gsum (nxN n many) nf (a ++ [j]).length k = gsum (nxN n many) nf a.length k + nf (it (nxN n many) a.length k) := by rw [List.length_append]; rfl
        rw [e4, e5]
        have gn := hgn _ hlt
        generalize it (nxN n many) a.length k = h1 at *
        generalize gsum (nxN n many) nf a.length k = h2 at *
        refine ⟨_, _, rfl, .inl ?_, some (dn j), rfl⟩
        refine seq_to (ρ1 := [some sd, some (dn many), some (dn back), some (.lst (sh.map dn)), some (dn k), some (.lst nums), st, ln, some (dn S), some (dn h1), some (.int (h2 + nf h1)), some (dn j)]) (by simp [gn]) ?_
        unfold nxN
        have e6 : ((h1 : Int) + 1 < (many : Int) + (back : Int)) ↔ h1 + 1 < n := by omega
        by_cases h3 : h1 + 1 < n
        · simp [e0, h3, show ((h1 : Int) + 1 < (n : Int)) by omega]
        · simp [e0, h3, show ¬ ((h1 : Int) + 1 < (n : Int)) by omega])
    rw [List.length_range] at e
    exact ⟨x11', e⟩
  have line : ∀ k, k < n → ∀ (st x8 x9 x10 x11 : Option D), ∃ x8' x9' x10' x11', dForL (tName 8) (dSeq (dPar 9 10 (dCons (dVar 4) (dCons (dC (.int 0)) (dNil))))
    (dSeq (dFor [0, 3] (tName 11) (dIterL gRange1 (dCons (dVar 8) (dNil))) (dSeq (dAsg (tName 10) (dOp gAdd (dVar 10) (dIx gIxL (dVar 5) (dVar 9))))
    (dAsg (tName 9) (dIf (dB (dOp gLt (dOp gAdd (dVar 9) (dC (.int 1))) (dOp gAdd (dVar 1) (dVar 2)))) (dOp gAdd (dVar 9) (dC (.int 1))) (dVar 1)))))
    (dExp (dMtM gApp 7 (dCons (dTup (dCons (dVar 9) (dCons (dTup (dCons (dVar 10) (dNil))) (dNil)))) (dNil)))))) [3]
      [some sd, some (dn many), some (dn back), some (.lst (sh.map dn)), some (dn k), some (.lst nums), st, some (.lst []), x8, x9, x10, x11] (sh.map dn)
      [some sd, some (dn many), some (dn back), some (.lst (sh.map dn)), some (dn k), some (.lst nums), st, some (.lst []), x8, x9, x10, x11] =
      some (.nx [some sd, some (dn many), some (dn back), some (.lst (sh.map dn)), some (dn k), some (.lst nums), st, some (.lst (sh.map fun S => D.tup [dn (it (nxN n many) S k), tg1 (gsum (nxN n many) nf S k)])), x8', x9', x10', x11']) := by
    intro k hk st x8 x9 x10 x11
    obtain ⟨ρ', e, x8', x9', x10', x11', rfl⟩ := for_mapped (tg := tName 8) (g := dSeq (dPar 9 10 (dCons (dVar 4) (dCons (dC (.int 0)) (dNil))))
        (dSeq (dFor [0, 3] (tName 11) (dIterL gRange1 (dCons (dVar 8) (dNil))) (dSeq (dAsg (tName 10) (dOp gAdd (dVar 10) (dIx gIxL (dVar 5) (dVar 9))))
        (dAsg (tName 9) (dIf (dB (dOp gLt (dOp gAdd (dVar 9) (dC (.int 1))) (dOp gAdd (dVar 1) (dVar 2)))) (dOp gAdd (dVar 9) (dC (.int 1))) (dVar 1)))))
        (dExp (dMtM gApp 7 (dCons (dTup (dCons (dVar 9) (dCons (dTup (dCons (dVar 10) (dNil))) (dNil)))) (dNil)))))) (deps := [3])
      (ρ0 := [some sd, some (dn many), some (dn back), some (.lst (sh.map dn)), some (dn k), some (.lst nums), st, some (.lst []), x8, x9, x10, x11]) (φ := dn) (l := sh)
      (ρ := [some sd, some (dn many), some (dn back), some (.lst (sh.map dn)), some (dn k), some (.lst nums), st, some (.lst []), x8, x9, x10, x11])
      (fun done ρ => ∃ x8 x9 x10 x11, ρ = [some sd, some (dn many), some (dn back), some (.lst (sh.map dn)), some (dn k), some (.lst nums), st, some (.lst (done.map fun S => D.tup [dn (it (nxN n many) S k), tg1 (gsum (nxN n many) nf S k)])), x8, x9, x10, x11])
      (fun _ ρ h => by obtain ⟨x8, x9, x10, x11, rfl⟩ := h; simp) ⟨x8, x9, x10, x11, rfl⟩ (by
        rintro a S b ρ hl2 ⟨x8, x9, x10, x11, rfl⟩
        have hS := h4 S (by rw [hl2]; simp)
        have hal : a.length < 6 := by have := congrArg List.length hl2; simp at this; omega
        rw [List.map_append, List.map_singleton]
        have hll : (a.map fun S => D.tup [dn (it (nxN n many) S k), tg1 (gsum (nxN n many) nf S k)]).length < LIM := by rw [List.length_map, lim_eq]; omega
        generalize a.map (fun S => D.tup [dn (it (nxN n many) S k), tg1 (gsum (nxN n many) nf S k)]) = ln at *
        obtain ⟨x11', e3⟩ := lap k hk S hS st (some (.lst ln)) x11
        have gs := range1_nat (n := S) (by omega)
        simp only [dn] at gs
        generalize it (nxN n many) S k = h1 at *
        generalize gsum (nxN n many) nf S k = h2 at *
        refine ⟨_, [some sd, some (dn many), some (dn back), some (.lst (sh.map dn)), some (dn k), some (.lst nums), st, some (.lst (ln ++ [D.tup [dn h1, tg1 h2]])), some (dn S), some (dn h1), some (.int h2), x11'], rfl, .inl ?_, some (dn S), some (dn h1), some (.int h2), x11', rfl⟩
        refine seq_to (ρ1 := [some sd, some (dn many), some (dn back), some (.lst (sh.map dn)), some (dn k), some (.lst nums), st, some (.lst ln), some (dn S), some (dn k), some (.int 0), x11]) (by simp) ?_
        refine seq_to (ρ1 := [some sd, some (dn many), some (dn back), some (.lst (sh.map dn)), some (dn k), some (.lst nums), st, some (.lst ln), some (dn S), some (dn h1), some (.int h2), x11']) ?_ ?_
        · simp only [ev_dFor]
          simp [gs]
          exact e3
        · rw [lim_eq] at hll
          simp [hll, lim_eq]
          rfl)
    exact ⟨x8', x9', x10', x11', e⟩
  obtain ⟨ρ', e2, x7, x8, x9, x10, x11, y4, rfl⟩ := for_mapped (tg := tName 4) (g := dSeq (dAsg (tName 7) (dLst (dNil)))
    (dSeq (dFor [0, 3] (tName 8) (dIter1 D.lis (dVar 3)) (dSeq (dPar 9 10 (dCons (dVar 4) (dCons (dC (.int 0)) (dNil))))
    (dSeq (dFor [0, 3] (tName 11) (dIterL gRange1 (dCons (dVar 8) (dNil))) (dSeq (dAsg (tName 10) (dOp gAdd (dVar 10) (dIx gIxL (dVar 5) (dVar 9))))
    (dAsg (tName 9) (dIf (dB (dOp gLt (dOp gAdd (dVar 9) (dC (.int 1))) (dOp gAdd (dVar 1) (dVar 2)))) (dOp gAdd (dVar 9) (dC (.int 1))) (dVar 1)))))
    (dExp (dMtM gApp 7 (dCons (dTup (dCons (dVar 9) (dCons (dTup (dCons (dVar 10) (dNil))) (dNil)))) (dNil)))))))
    (dExp (dMtM gApp 6 (dCons (dCB gTupOf (dCons (dVar 7) (dNil))) (dNil))))))
    (deps := []) (ρ0 := [some sd, some (dn many), some (dn back), some (.lst (sh.map dn)), none, some (.lst nums), some (.lst []), none, none, none, none, none]) (φ := dn) (l := List.range n)
    (ρ := [some sd, some (dn many), some (dn back), some (.lst (sh.map dn)), none, some (.lst nums), some (.lst []), none, none, none, none, none])
    (fun done ρ => ∃ x7 x8 x9 x10 x11 y4, ρ = [some sd, some (dn many), some (dn back), some (.lst (sh.map dn)), y4, some (.lst nums), some (.lst (done.map fun k => .tup (sh.map fun S => D.tup [dn (it (nxN n many) S k), tg1 (gsum (nxN n many) nf S k)]))), x7, x8, x9, x10, x11])
    (fun _ _ _ => rfl) ⟨none, none, none, none, none, none, rfl⟩ (by
      rintro a k b ρ hl2 ⟨x7, x8, x9, x10, x11, y4, rfl⟩
      obtain ⟨ha, hk, -⟩ := range_split hl2
      rw [List.map_append, List.map_singleton]
      have hll : (a.map fun k => D.tup (sh.map fun S => D.tup [dn (it (nxN n many) S k), tg1 (gsum (nxN n many) nf S k)])).length < 100000 := by rw [List.length_map]; omega
      generalize a.map (fun k => D.tup (sh.map fun S => D.tup [dn (it (nxN n many) S k), tg1 (gsum (nxN n many) nf S k)])) = rows at *
      obtain ⟨x8', x9', x10', x11', e3⟩ := line k hk (some (.lst rows)) x8 x9 x10 x11
      have im : immL (sh.map fun S => D.tup [dn (it (nxN n many) S k), tg1 (gsum (nxN n many) nf S k)]) = true := by simp
      have im2 : immL (sh.map dn) = true := immL_dn _
      generalize (sh.map fun S => D.tup [dn (it (nxN n many) S k), tg1 (gsum (nxN n many) nf S k)]) = ln at *
      generalize sh.map dn = shl at *
      refine ⟨_, [some sd, some (dn many), some (dn back), some (.lst shl), some (dn k), some (.lst nums), some (.lst (rows ++ [.tup ln])), some (.lst ln), x8', x9', x10', x11'], rfl, .inl ?_, some (.lst ln), x8', x9', x10', x11', some (dn k), rfl⟩
      refine seq_to (ρ1 := [some sd, some (dn many), some (dn back), some (.lst shl), some (dn k), some (.lst nums), some (.lst rows), some (.lst []), x8, x9, x10, x11]) (by simp [lim_eq]) ?_
      refine seq_to (ρ1 := [some sd, some (dn many), some (dn back), some (.lst shl), some (dn k), some (.lst nums), some (.lst rows), some (.lst ln), x8', x9', x10', x11']) ?_ ?_
      · rw [ev_dFor]
        simp [im2]
        exact e3
      · simp [im, hll, lim_eq])
  have erow : (List.range n).map (fun k => D.tup (sh.map fun S => D.tup [dn (it (nxN n many) S k), tg1 (gsum (nxN n many) nf S k)])) =
      (List.range n).map fun m => rwD sh.length fun w => some (it (nxN n many) (sh.getD w 0) m, gsum (nxN n many) nf (sh.getD w 0) m) := by
    apply List.map_congr_left
    intro m _
    unfold rwD
    rw [← range_getD (fun S => D.tup [dn (it (nxN n many) S m), tg1 (gsum (nxN n many) nf S m)]) sh]
    rfl
  rw [erow] at e2
  have him : immL ((List.range n).map fun m => rwD sh.length fun w => some (it (nxN n many) (sh.getD w 0) m, gsum (nxN n many) nf (sh.getD w 0) m)) = true := by simp
  refine ⟨MD n sh.length (fun w m => some (it (nxN n many) (sh.getD w 0) m, gsum (nxN n many) nf (sh.getD w 0) m)), sd, ?_, hs', ?_⟩
  · unfold MD
    generalize (List.range n).map (fun m => rwD sh.length fun w => some (it (nxN n many) (sh.getD w 0) m, gsum (nxN n many) nf (sh.getD w 0) m)) = rows at *
    refine (def_ret (d := .tup [dn sh.length, .int 1, .tup rows]) (ρ := [some sd, some (dn many), some (dn back), some (.lst (sh.map dn)), y4, some (.lst nums), some (.lst rows), x7, x8, x9, x10, x11]) rfl ?_).trans rfl
    refine seq_to (ρ1 := [some sd, some (dn many), some (dn back), some (.lst (sh.map dn)), none, some (.lst nums), none, none, none, none, none, none]) ?_ ?_
    · have e1' : dLc [4] (tName 4) (dIterL gRange1 (dCons (dOp gAdd (dVar 1) (dVar 2)) dNil)) dYes (dCall p__law_of (dCons (dVar 0) (dCons (dLst (dCons (dC (D.int 0)) (dCons (dC (D.int 1)) dNil))) dNil))) [some s, some (dn many), some (dn back), some (.lst (sh.map dn)), none, none, none, none, none, none, none, none] = _ := e1
      rw [ev_dAsg]
      simp [e1']
    · refine seq_to (ρ1 := [some sd, some (dn many), some (dn back), some (.lst (sh.map dn)), none, some (.lst nums), some (.lst []), none, none, none, none, none]) (by simp [lim_eq]) ?_
      refine seq_to (ρ1 := [some sd, some (dn many), some (dn back), some (.lst (sh.map dn)), y4, some (.lst nums), some (.lst rows), x7, x8, x9, x10, x11]) ?_ ?_
      · rw [ev_dFor]
        simp only [dn] at gr
        simp [e0, gr]
        exact e2
      · simp [him, lim_eq]
  · have hl0 := (List.getElem?_eq_some_iff.mp h1).1
    obtain ⟨ins, hins⟩ : ∃ ins, sh.length = ins + 1 := ⟨sh.length - 1, by omega⟩
    have N := summed_net hmn sh h1
    rw [hins] at N ⊢
    refine ⟨n, ins, _, (fun w m => it (nxN n many) (sh.getD w 0) m), (fun w m => gsum (nxN n many) nf (sh.getD w 0) m), rfl, ⟨fun w m _ _ => rfl, N.lt⟩, N, by omega, by omega, fun w m => ?_⟩
    have h := gsum_le (nx := nxN n many) hnf (sh.getD w 0) m
    have : sh.getD w 0 ≤ 4 := by
      by_cases hw : w < sh.length
      · have e : sh.getD w 0 = sh[w] := by simp [hw]
        rw [e]; exact h4 _ (List.getElem_mem _)
      · have e : sh.getD w 0 = 0 := by rw [List.getD_eq_getElem?_getD, List.getElem?_eq_none (by omega)]; rfl
        omega
    show (gsum (nxN n many) nf (sh.getD w 0) m).natAbs < 1000
    omega
end
end L47
end
end
section
set_option Elab.async false
set_option linter.all false
set_option maxRecDepth 100000
noncomputable section
namespace PD
open L2
/-- a tuple of numbers -/
def cellD (c : List Nat) : D := .tup (c.map dn)
@[simp] theorem cellD_imm (c : List Nat) : (cellD c).imm = true := by simp [cellD]
theorem eqvAll_dn2 : ∀ l r : List Nat, PySem.PyData.eqvAll (toPL (l.map dn)) (toPL (r.map dn)) = decide (l = r)
  | [], [] => rfl
  | [], b :: r => rfl
  | a :: l, [] => rfl
  | a :: l, b :: r => by
    rw [List.map_cons, List.map_cons, toPL, toPL]
    show ((((a : Int)) == (b : Int)) && PySem.PyData.eqvAll (toPL (l.map dn)) (toPL (r.map dn))) = _
    rw [eqvAll_dn2 l r, Bool.eq_iff_iff]
    simp
    omega
theorem eqv_cell (l r : List Nat) : PySem.PyData.eqv (toP (cellD l)) (toP (cellD r)) = decide (l = r) := eqvAll_dn2 l r
theorem shaped_cell (l : List Nat) : PySem.SeqAt.shaped (toP (cellD l)) = true := (shaped_dns l).1
theorem flat_cells (l : List (List Nat)) : PySem.PyData.canLayAll0 (toPL (l.map cellD)) = true ∧ PySem.PyData.depthAll (toPL (l.map cellD)) ≤ 2 := by
  induction l with
  | nil => simp [toPL, PySem.PyData.canLayAll0, PySem.PyData.depthAll]
  | cons a r ih =>
    have h := flat_dn a
    have e : toP (cellD a) = .tuple (toPL (a.map dn)) := by unfold cellD; rw [toP]
    simp only [List.map_cons, toPL, e, PySem.PyData.canLayAll0, PySem.PyData.canLay0, PySem.PyData.depthAll, PySem.PyData.depth, h.1, ih.1, Bool.and_self, true_and]
    have := h.2; have := ih.2; omega
theorem shaped_cells (l : List (List Nat)) : PySem.SeqAt.shaped (toP (.lst (l.map cellD))) = true := by
  have h := flat_cells l
  simp only [toP, PySem.SeqAt.shaped, PySem.PyData.canLay0, PySem.PyData.depth, h.1, Bool.true_and, decide_eq_true_eq]
  have := h.2; omega
theorem findP_cell {c : List Nat} : ∀ {l : List (List Nat)} {k : Nat}, c ∈ l → findP (toP (cellD c)) (toPL (l.map cellD)) k = some (k + l.idxOf c)
  | [], k, h => nomatch h
  | a :: r, k, h => by
    rw [List.map_cons, toPL, findP, eqv_cell]
    by_cases e : a = c
    · subst e; simp
    · rw [if_neg (by simpa using e), findP_cell (by rcases List.mem_cons.mp h with z | z; exact absurd z.symm e; exact z), List.idxOf_cons]
      have : (a == c) = false := by simpa using e
      rw [this]
      simp
      omega
theorem index_cell {c : List Nat} {l : List (List Nat)} (h : c ∈ l) : gIndex (l.map cellD) [cellD c] = some (dn (l.idxOf c), l.map cellD) := by
  unfold gIndex
  simp only [shaped_cells, shaped_cell, findP_cell h, Bool.and_self, if_true, Option.map_some, Nat.zero_add]
theorem perm_map_ex {α β : Type} (f : α → β) : ∀ {ys zs : List β}, ys.Perm zs → ∀ xs : List α, zs = xs.map f → ∃ r : List α, ys = r.map f ∧ r.Perm xs := by
  intro ys zs h
  induction h with
  | nil => intro xs e; exact ⟨[], rfl, by rw [List.map_eq_nil_iff.mp e.symm]⟩
  | cons a h ih =>
    intro xs e
    cases xs with
    | nil => cases e
    | cons x xs =>
      simp at e
      obtain ⟨r, h1, h2⟩ := ih xs e.2
      exact ⟨x :: r, by simp [h1, e.1], h2.cons x⟩
  | swap a b l =>
    intro xs e
    match xs, e with
    | x :: y :: xs, e =>
      simp at e
      exact ⟨y :: x :: xs, by simp [e], List.Perm.swap _ _ _⟩
  | trans h1 h2 ih1 ih2 =>
    intro xs e
    obtain ⟨r, e1, p1⟩ := ih2 xs e
    obtain ⟨r2, e2, p2⟩ := ih1 r e1
    exact ⟨r2, e2, p2.trans p1⟩
end PD
namespace L47
open PD L2 CM
section
theorem cellsN_le {sz : List (Nat × Nat)} (h : ∀ s ∈ sz, s.1 + s.2 ≤ 4) : (cellsN sz).length ≤ 4 ^ sz.length := by
  induction sz using snoc_ind with
  | h0 => simp [cellsN]
  | h1 l s ih =>
    have h1 := ih fun s hs => h s (by simp [hs])
    have h2 := h s (by simp)
    rw [cellsN_snoc, List.length_flatMap]
    simp only [List.length_map, List.length_range, List.map_const', List.sum_replicate_nat, List.length_append, List.length_singleton, Nat.pow_succ]
    exact Nat.mul_le_mul h1 h2
def szD (s : Nat × Nat) : D := .tup [dn s.1, dn s.2]
@[simp] theorem szD_imm (s : Nat × Nat) : (szD s).imm = true := by simp [szD]
/-- the rows of givens -/
def gvD (gs : List (List Int)) : List D := gs.map fun r => .lst (r.map tg1)
structure GvOk (gs : List (List Int)) (sz : List (Nat × Nat)) : Prop where
  len : gs.length = sz.length
  row : ∀ (i : Nat) (r : List Int) (s : Nat × Nat), gs[i]? = some r → sz[i]? = some s → r.length = s.1 + s.2
  le : ∀ r ∈ gs, ∀ x ∈ r, 0 ≤ x ∧ x ≤ 2
/-- a row of givens is drawn -/
theorem given_row {s : D} (hs : IsSrc s) {many back : Nat} (hn : many + back ≤ 4) {x1 x2 x3 x4 x5 x8 x9 x10 x11 x12 x13 x14 : Option D} :
    ∃ (s' : D) (r : List Int) (p : Bool), dLc [15] (tName 15) (dIterL gRange1 (dCons (dOp gAdd (dVar 6) (dVar 7)) (dNil))) (dYes) (dTup (dCons (dCall p__law_of (dCons (dVar 0) (dCons (dLst (dCons (dC (.int 0)) (dCons (dC (.int 0)) (dCons (dC (.int 1)) (dCons (dC (.int 2)) (dNil)))))) (dNil)))) (dNil)))
      [some s, x1, x2, x3, x4, x5, some (dn many), some (dn back), x8, x9, x10, x11, x12, x13, x14, none] = some (.ok (.own (.lst (r.map tg1))) [some s', x1, x2, x3, x4, x5, some (dn many), some (dn back), x8, x9, x10, x11, x12, x13, x14, none] p) ∧ IsSrc s' ∧ r.length = many + back ∧ ∀ x ∈ r, 0 ≤ x ∧ x ≤ 2 := by
  generalize hN : many + back = N at *
  have gr := range1_nat (n := N) (by omega)
  simp only [dn] at gr
  have e0 : ((many : Int) + (back : Int)) = (N : Int) := by omega
  obtain ⟨ρ', acc, p', e1, s', r, rfl, hs', rfl, hr, hle⟩ := dLc_map (vs := [15]) (tg := tName 15) (tt := dYes) (fe := dTup (dCons (dCall p__law_of (dCons (dVar 0) (dCons (dLst (dCons (dC (.int 0)) (dCons (dC (.int 0)) (dCons (dC (.int 1)) (dCons (dC (.int 2)) (dNil)))))) (dNil)))) (dNil)))
    (fi := dIterL gRange1 (dCons (dOp gAdd (dVar 6) (dVar 7)) (dNil))) (ρ := [some s, x1, x2, x3, x4, x5, some (dn many), some (dn back), x8, x9, x10, x11, x12, x13, x14, none]) (ρ1 := [some s, x1, x2, x3, x4, x5, some (dn many), some (dn back), x8, x9, x10, x11, x12, x13, x14, none]) (deps := []) (φ := dn) (l := List.range N) (p0 := true)
    (fun done ρ acc => ∃ (s' : D) (r : List Int), ρ = [some s', x1, x2, x3, x4, x5, some (dn many), some (dn back), x8, x9, x10, x11, x12, x13, x14, none] ∧ IsSrc s' ∧ acc = r.map tg1 ∧ r.length = done.length ∧ ∀ x ∈ r, 0 ≤ x ∧ x ≤ 2)
    (by simp [e0, gr]) (by simp) (by simp) (fun _ _ _ _ => rfl) ⟨s, [], rfl, hs, rfl, rfl, by simp⟩ (by
      rintro a k b ρ acc hl ⟨s', r, rfl, hs', rfl, hr, hle⟩
      obtain ⟨ha, hk, -⟩ := range_split hl
      obtain ⟨y, s2, e2, hs2, hy⟩ := of_ok hs' (xs := [.int 0, .int 0, .int 1, .int 2]) (by simp) rfl (by simp)
      obtain ⟨z, rfl, hz⟩ : ∃ z : Int, y = .int z ∧ 0 ≤ z ∧ z ≤ 2 := by
        simp at hy
        rcases hy with rfl | rfl | rfl
        · exact ⟨0, rfl, by omega⟩
        · exact ⟨1, rfl, by omega⟩
        · exact ⟨2, rfl, by omega⟩
      obtain ⟨c1, c2, c3, c4, rfl, -⟩ := hs'.ex
      obtain ⟨c5, c6, c7, c8, rfl, -⟩ := hs2.ex
      refine ⟨_, rfl, .inl ⟨_, true, .own (tg1 z), [some (srcD c5 c6 c7 c8), x1, x2, x3, x4, x5, some (dn many), some (dn back), x8, x9, x10, x11, x12, x13, x14, some (dn k)], false, tg1 z, _, rfl, ?_, rfl, by rw [List.length_map, lim_eq]; omega, srcD c5 c6 c7 c8, r ++ [z], rfl, hs2, by simp, by simp [hr], ?_⟩⟩
      · simp [of_eq, e2, lim_eq]
        rfl
      · intro x hx
        rcases List.mem_append.mp hx with h | h
        · exact hle x h
        · rw [List.mem_singleton.mp h]; exact hz)
  exact ⟨s', r, p', e1, hs', by rw [hr, List.length_range], hle⟩
end
end L47
end
end
section
set_option Elab.async false
set_option linter.all false
set_option maxRecDepth 100000
noncomputable section
namespace L47
open PD L2 CM
section
/-- one more wire's cells -/
theorem grid_cells {cs : List (List Nat)} {many back N : Nat} (hN : many + back = N) (h4 : N ≤ 4) (hl : cs.length * N ≤ 1000) (hc : ∀ c ∈ cs, c.length ≤ 10) {x0 x1 x2 x3 x5 x9 x10 x11 x12 x13 x14 : Option D} :
    ∃ x9', dForL (tName 9) (dAsg (tName 8) (dOp gCat (dVar 8) (dLc [15] (tName 15) (dIterL gRange1 (dCons (dOp gAdd (dVar 6) (dVar 7)) (dNil))) (dYes) (dOp gCatT (dVar 9) (dTup (dCons (dVar 15) (dNil))))))) [4]
      [x0, x1, x2, x3, some (.lst (cs.map cellD)), x5, some (dn many), some (dn back), some (.lst []), x9, x10, x11, x12, x13, x14, none] (cs.map cellD)
      [x0, x1, x2, x3, some (.lst (cs.map cellD)), x5, some (dn many), some (dn back), some (.lst []), x9, x10, x11, x12, x13, x14, none] =
      some (.nx [x0, x1, x2, x3, some (.lst (cs.map cellD)), x5, some (dn many), some (dn back), some (.lst ((cs.flatMap fun c => (List.range N).map fun k => c ++ [k]).map cellD)), x9', x10, x11, x12, x13, x14, none]) := by
  have gr := range1_nat (n := N) (by omega)
  simp only [dn] at gr
  have e0 : ((many : Int) + (back : Int)) = (N : Int) := by omega
  obtain ⟨ρ', e, x9', rfl⟩ := for_mapped (tg := tName 9) (g := dAsg (tName 8) (dOp gCat (dVar 8) (dLc [15] (tName 15) (dIterL gRange1 (dCons (dOp gAdd (dVar 6) (dVar 7)) (dNil))) (dYes) (dOp gCatT (dVar 9) (dTup (dCons (dVar 15) (dNil))))))) (deps := [4])
    (ρ0 := [x0, x1, x2, x3, some (.lst (cs.map cellD)), x5, some (dn many), some (dn back), some (.lst []), x9, x10, x11, x12, x13, x14, none]) (φ := cellD) (l := cs)
    (ρ := [x0, x1, x2, x3, some (.lst (cs.map cellD)), x5, some (dn many), some (dn back), some (.lst []), x9, x10, x11, x12, x13, x14, none])
    (fun done ρ => ∃ x9, ρ = [x0, x1, x2, x3, some (.lst (cs.map cellD)), x5, some (dn many), some (dn back), some (.lst ((done.flatMap fun c => (List.range N).map fun k => c ++ [k]).map cellD)), x9, x10, x11, x12, x13, x14, none])
    (fun _ ρ h => by obtain ⟨x9, rfl⟩ := h; simp) ⟨x9, rfl⟩ (by
      rintro a c b ρ hl2 ⟨x9, rfl⟩
      have hal : (a.flatMap fun c => (List.range N).map fun k => c ++ [k]).length ≤ 1000 := by
        rw [List.length_flatMap]
        simp only [List.length_map, List.length_range, List.map_const', List.sum_replicate_nat]
        have : a.length ≤ cs.length := by rw [hl2]; simp
        exact Nat.le_trans (Nat.mul_le_mul_right N this) hl
      have e2 : (a ++ [c]).flatMap (fun c => (List.range N).map fun k => c ++ [k]) = (a.flatMap fun c => (List.range N).map fun k => c ++ [k]) ++ ((List.range N).map fun k => c ++ [k]) := by simp
      rw [e2, List.map_append]
      have hll : ((a.flatMap fun c => (List.range N).map fun k => c ++ [k]).map cellD).length ≤ 1000 := by rw [List.length_map]; exact hal
      have im1 : immL ((a.flatMap fun c => (List.range N).map fun k => c ++ [k]).map cellD) = true := by simp
      generalize (a.flatMap fun c => (List.range N).map fun k => c ++ [k]).map cellD = late at *
      have cc : ∀ x15 : Option D, dLc [15] (tName 15) (dIterL gRange1 (dCons (dOp gAdd (dVar 6) (dVar 7)) (dNil))) (dYes) (dOp gCatT (dVar 9) (dTup (dCons (dVar 15) (dNil)))) [x0, x1, x2, x3, some (.lst (cs.map cellD)), x5, some (dn many), some (dn back), some (.lst late), some (cellD c), x10, x11, x12, x13, x14, x15] =
          some (.ok (.own (.lst (((List.range N).map fun k => c ++ [k]).map cellD))) [x0, x1, x2, x3, some (.lst (cs.map cellD)), x5, some (dn many), some (dn back), some (.lst late), some (cellD c), x10, x11, x12, x13, x14, none] true) := fun x15 => by
        have h := dLc_pureG (vs := [15]) (tg := tName 15) (tt := dYes) (fe := dOp gCatT (dVar 9) (dTup (dCons (dVar 15) (dNil)))) (fi := dIterL gRange1 (dCons (dOp gAdd (dVar 6) (dVar 7)) (dNil)))
          (ρ := [x0, x1, x2, x3, some (.lst (cs.map cellD)), x5, some (dn many), some (dn back), some (.lst late), some (cellD c), x10, x11, x12, x13, x14, x15]) (φ := dn) (xs := List.range N) (deps := []) (need := false) (b := fun _ => true) (y := fun k => cellD (c ++ [k]))
          (by simp [e0, gr]) (by simp) rfl (by rw [List.length_range, lim_eq]; omega) (fun k hk => by
            refine ⟨_, rfl, rfl, fun _ => ?_, by simp⟩
            have im : immL (c.map dn) = true := immL_dn _
            have hcl : c.length ≤ 10 := hc c (by rw [hl2]; simp)
            have hcl2 : c.length ≤ 99999 := by omega
            simp [cellD, im, hcl2, lim_eq])
        rw [List.filter_eq_self.mpr (fun _ _ => rfl)] at h
        have e3 : (List.range N).map (fun k => cellD (c ++ [k])) = ((List.range N).map fun k => c ++ [k]).map cellD := by rw [List.map_map]; rfl
        rw [e3] at h
        exact h
      have im2 : immL (((List.range N).map fun k => c ++ [k]).map cellD) = true := by simp
      have hl3 : (((List.range N).map fun k => c ++ [k]).map cellD).length ≤ 4 := by simp; omega
      generalize ((List.range N).map fun k => c ++ [k]).map cellD = more at *
      refine ⟨_, _, rfl, .inl ?_, some (cellD c), rfl⟩
      generalize dLc [15] = dl at *
      have hl4 : late.length + more.length ≤ 100000 := by omega
      simp [cc, im1, im2, hl4, lim_eq])
  exact ⟨x9', e⟩
theorem isCell_len {sz : List (Nat × Nat)} {c : List Nat} (h : c ∈ cellsN sz) : c.length = sz.length := ((cellsN_mem sz c).mp h).1
/-- cells and givens, wire by wire -/
theorem grid_sizes {s : D} (hs : IsSrc s) {sz : List (Nat × Nat)} (h2 : sz.length ≤ 2) (hp : ∀ s ∈ sz, 0 < s.2) (h4 : ∀ s ∈ sz, s.1 + s.2 ≤ 4) :
    ∃ (s' : D) (gs : List (List Int)) (x6 x7 x8 x9 : Option D), dForL (tTupG 2 (tsCons (tName 6) (tsCons (tName 7) (tsNil)))) (dSeq (dAsg (tName 8) (dLst (dNil)))
    (dSeq (dFor [0, 2, 4] (tName 9) (dIter1 D.lis (dVar 4)) (dAsg (tName 8) (dOp gCat (dVar 8) (dLc [15] (tName 15) (dIterL gRange1 (dCons (dOp gAdd (dVar 6) (dVar 7)) (dNil))) (dYes) (dOp gCatT (dVar 9) (dTup (dCons (dVar 15) (dNil))))))))
    (dSeq (dAsg (tName 4) (dVar 8))
    (dExp (dMtM gApp 5 (dCons (dLc [15] (tName 15) (dIterL gRange1 (dCons (dOp gAdd (dVar 6) (dVar 7)) (dNil))) (dYes) (dTup (dCons (dCall p__law_of (dCons (dVar 0) (dCons (dLst (dCons (dC (.int 0)) (dCons (dC (.int 0)) (dCons (dC (.int 1)) (dCons (dC (.int 2)) (dNil)))))) (dNil)))) (dNil)))) (dNil))))))) [2]
      [some s, some (dn sz.length), some (.lst (sz.map szD)), some (.dic []), some (.lst [cellD []]), some (.lst []), none, none, none, none, none, none, none, none, none, none] (sz.map szD)
      [some s, some (dn sz.length), some (.lst (sz.map szD)), some (.dic []), some (.lst [cellD []]), some (.lst []), none, none, none, none, none, none, none, none, none, none] =
      some (.nx [some s', some (dn sz.length), some (.lst (sz.map szD)), some (.dic []), some (.lst ((cellsN sz).map cellD)), some (.lst (gvD gs)), x6, x7, x8, x9, none, none, none, none, none, none]) ∧ IsSrc s' ∧ GvOk gs sz := by
  obtain ⟨ρ', e, s', gs, x6, x7, x8, x9, rfl, hs', hg⟩ := for_mapped (tg := tTupG 2 (tsCons (tName 6) (tsCons (tName 7) (tsNil)))) (g := dSeq (dAsg (tName 8) (dLst (dNil)))
    (dSeq (dFor [0, 2, 4] (tName 9) (dIter1 D.lis (dVar 4)) (dAsg (tName 8) (dOp gCat (dVar 8) (dLc [15] (tName 15) (dIterL gRange1 (dCons (dOp gAdd (dVar 6) (dVar 7)) (dNil))) (dYes) (dOp gCatT (dVar 9) (dTup (dCons (dVar 15) (dNil))))))))
    (dSeq (dAsg (tName 4) (dVar 8))
    (dExp (dMtM gApp 5 (dCons (dLc [15] (tName 15) (dIterL gRange1 (dCons (dOp gAdd (dVar 6) (dVar 7)) (dNil))) (dYes) (dTup (dCons (dCall p__law_of (dCons (dVar 0) (dCons (dLst (dCons (dC (.int 0)) (dCons (dC (.int 0)) (dCons (dC (.int 1)) (dCons (dC (.int 2)) (dNil)))))) (dNil)))) (dNil)))) (dNil))))))) (deps := [2])
    (ρ0 := [some s, some (dn sz.length), some (.lst (sz.map szD)), some (.dic []), some (.lst [cellD []]), some (.lst []), none, none, none, none, none, none, none, none, none, none]) (φ := szD) (l := sz)
    (ρ := [some s, some (dn sz.length), some (.lst (sz.map szD)), some (.dic []), some (.lst [cellD []]), some (.lst []), none, none, none, none, none, none, none, none, none, none])
    (fun done ρ => ∃ (s' : D) (gs : List (List Int)) (x6 x7 x8 x9 : Option D), ρ = [some s', some (dn sz.length), some (.lst (sz.map szD)), some (.dic []), some (.lst ((cellsN done).map cellD)), some (.lst (gvD gs)), x6, x7, x8, x9, none, none, none, none, none, none] ∧ IsSrc s' ∧ GvOk gs done)
    (fun _ ρ h => by obtain ⟨s', gs, x6, x7, x8, x9, rfl, -⟩ := h; simp) ⟨s, [], none, none, none, none, rfl, hs, ⟨rfl, fun i r s h => by simp at h, fun r h => nomatch h⟩⟩ (by
      rintro a ⟨many, back⟩ b ρ hl2 ⟨s', gs, x6, x7, x8, x9, rfl, hs', hg⟩
      have hmem : (many, back) ∈ sz := by rw [hl2]; simp
      have hN := h4 _ hmem
      simp only at hN
      have ha4 : ∀ s ∈ a, s.1 + s.2 ≤ 4 := fun s hs => h4 s (by rw [hl2]; simp [hs])
      have hal : a.length ≤ 1 := by
        have := congrArg List.length hl2; simp at this; omega
      have hcl := cellsN_le ha4
      have hcl2 : (cellsN a).length ≤ 4 := Nat.le_trans hcl (by
        have : a.length = 0 ∨ a.length = 1 := by omega
        rcases this with h | h <;> rw [h] <;> decide)
      obtain ⟨x9', e1⟩ := grid_cells (cs := cellsN a) (many := many) (back := back) rfl hN (by have := Nat.mul_le_mul hcl2 hN; omega) (fun c hc => by have := isCell_len hc; omega)
        (x0 := some s') (x1 := some (dn sz.length)) (x2 := some (.lst (sz.map szD))) (x3 := some (.dic [])) (x5 := some (.lst (gvD gs))) (x9 := x9) (x10 := none) (x11 := none) (x12 := none) (x13 := none) (x14 := none)
      rw [← cellsN_snoc a (many, back)] at e1
      obtain ⟨s2, r, p, e2, hs2, hr, hle⟩ := given_row hs' hN (x1 := some (dn sz.length)) (x2 := some (.lst (sz.map szD))) (x3 := some (.dic [])) (x4 := some (.lst ((cellsN (a ++ [(many, back)])).map cellD))) (x5 := some (.lst (gvD gs))) (x8 := none) (x9 := x9') (x10 := none) (x11 := none) (x12 := none) (x13 := none) (x14 := none)
      have eg : gvD (gs ++ [r]) = gvD gs ++ [.lst (r.map tg1)] := by simp [gvD]
      have hgl : (gvD gs).length < 100000 := by have := hg.len; simp [gvD]; omega
      have im0 : immL ((cellsN a).map cellD) = true := by simp
      refine ⟨_, [some s2, some (dn sz.length), some (.lst (sz.map szD)), some (.dic []), some (.lst ((cellsN (a ++ [(many, back)])).map cellD)), some (.lst (gvD (gs ++ [r]))), some (dn many), some (dn back), none, x9', none, none, none, none, none, none], rfl, .inl ?_, s2, gs ++ [r], some (dn many), some (dn back), none, x9', rfl, hs2, ?_⟩
      · rw [eg]
        obtain ⟨c1, c2, c3, c4, rfl, -⟩ := hs'.ex
        generalize (cellsN (a ++ [(many, back)])).map cellD = new at *
        generalize (cellsN a).map cellD = old at *
        generalize sz.map szD = szl at *
        generalize gvD gs = gl at *
        generalize r.map tg1 = rl at *
        generalize srcD c1 c2 c3 c4 = sd at *
        refine seq_to (ρ1 := [some sd, some (dn sz.length), some (.lst szl), some (.dic []), some (.lst old), some (.lst gl), some (dn many), some (dn back), some (.lst []), x9, none, none, none, none, none, none]) (by simp [lim_eq]) ?_
        refine seq_to (ρ1 := [some sd, some (dn sz.length), some (.lst szl), some (.dic []), some (.lst old), some (.lst gl), some (dn many), some (dn back), some (.lst new), x9', none, none, none, none, none, none]) ?_ ?_
        · rw [ev_dFor]
          simp [im0]
          exact e1
        · refine seq_to (ρ1 := [some sd, some (dn sz.length), some (.lst szl), some (.dic []), some (.lst new), some (.lst gl), some (dn many), some (dn back), none, x9', none, none, none, none, none, none]) (by simp) ?_
          rw [ev_dExp]
          simp [e2, hgl, lim_eq]
      · refine ⟨by simp [hg.len], fun i r' s h1 h2 => ?_, fun r' h => ?_⟩
        · by_cases hi : i < a.length
          · rw [List.getElem?_append_left hi] at h2
            rw [List.getElem?_append_left (by rw [hg.len]; exact hi)] at h1
            exact hg.row i r' s h1 h2
          · rw [List.getElem?_append_right (by omega)] at h2
            rw [List.getElem?_append_right (by rw [hg.len]; omega), hg.len] at h1
            have hi2 : i - a.length = 0 := by
              have := (List.getElem?_eq_some_iff.mp h2).1
              simpa using this
            rw [hi2] at h1 h2
            simp at h1 h2
            subst h1; subst h2; exact hr
        · rcases List.mem_append.mp h with h | h
          · exact hg.le r' h
          · rw [List.mem_singleton.mp h]; exact hle)
  exact ⟨s', gs, x6, x7, x8, x9, e, hs', hg⟩
end
end L47
end
end
section
set_option Elab.async false
set_option linter.all false
set_option maxRecDepth 100000
noncomputable section
namespace L47
open PD L2 CM
section
variable {sz : List (Nat × Nat)} {od : List (List Nat)}
def gval (gs : List (List Int)) (od : List (List Nat)) (w m : Nat) : Int := (gs.getD w []).getD ((od.getD m []).getD w 0) 0
def entry (sz : List (Nat × Nat)) (od : List (List Nat)) (gs : List (List Int)) (c : List Nat) (w : Nat) : D := .tup [dn (od.idxOf (adv sz w c)), tg1 ((gs.getD w []).getD (c.getD w 0) 0)]
@[simp] theorem entry_imm (gs : List (List Int)) (c : List Nat) (w : Nat) : (entry sz od gs c w).imm = true := by simp [entry]
theorem cut_take (c : List Nat) (w : Nat) (h : w ≤ c.length) : cutL (c.map dn) none (some (w : Int)) = (c.take w).map dn := by
  unfold cutL
  rw [HT.sIx_none, HT.sIx_nat, List.length_map, List.drop_zero, Nat.min_eq_left h, Nat.sub_zero, List.map_take]
theorem cut_drop (c : List Nat) (w : Nat) (h : w ≤ c.length) : cutL (c.map dn) (some (w : Int)) none = (c.drop w).map dn := by
  unfold cutL
  rw [HT.sIx_none, HT.sIx_nat, List.length_map, Nat.min_eq_left h, ← List.map_drop, List.take_of_length_le (by simp)]
theorem adv_parts {c : List Nat} {w : Nat} (h : w < c.length) : (c.take w).map dn ++ [dn (nxc (sz.getD w (0, 0)) (c.getD w 0))] ++ (c.drop (w + 1)).map dn = (adv sz w c).map dn := by
  unfold adv
  rw [List.set_eq_take_append_cons_drop, if_pos h, List.map_append, List.map_cons, List.append_assoc]
  rfl
theorem row_step (O : Order sz od) {gs : List (List Int)} (hg : GvOk gs sz) (h2 : sz.length ≤ 5) {c : List Nat} (hc : IsCell sz c) {x0 x1 x3 x4 x6 x7 x8 x11 x13 x14 : Option D} :
    ∃ x6' x7' x8' x13' x14', dForL (tTupG 2 (tsCons (tName 13) (tsCons (tTupG 2 (tsCons (tName 6) (tsCons (tName 7) (tsNil)))) (tsNil)))) (dSeq (dAsg (tName 14) (dIx gIxT (dVar 9) (dVar 13)))
    (dSeq (dAsg (tName 8) (dIf (dB (dOp gLt (dOp gAdd (dVar 14) (dC (.int 1))) (dOp gAdd (dVar 6) (dVar 7)))) (dOp gAdd (dVar 14) (dC (.int 1))) (dVar 6)))
    (dExp (dMtM gApp 12 (dCons (dTup (dCons (dMtM gIndex 10 (dCons (dOp gCatT (dOp gCatT (dSl gSlT (dVar 9) none (some (dVar 13))) (dTup (dCons (dVar 8) (dNil)))) (dSl gSlT (dVar 9) (some (dOp gAdd (dVar 13) (dC (.int 1)))) none)) (dNil))) (dCons (dIx gIxL (dIx gIxL (dVar 5) (dVar 13)) (dVar 14)) (dNil)))) (dNil)))))) [2]
      [x0, x1, some (.lst (sz.map szD)), x3, x4, some (.lst (gvD gs)), x6, x7, x8, some (cellD c), some (.lst (od.map cellD)), x11, some (.lst []), x13, x14, none] (enumL (sz.map szD))
      [x0, x1, some (.lst (sz.map szD)), x3, x4, some (.lst (gvD gs)), x6, x7, x8, some (cellD c), some (.lst (od.map cellD)), x11, some (.lst []), x13, x14, none] =
      some (.nx [x0, x1, some (.lst (sz.map szD)), x3, x4, some (.lst (gvD gs)), x6', x7', x8', some (cellD c), some (.lst (od.map cellD)), x11, some (.lst ((List.range sz.length).map (entry sz od gs c))), x13', x14', none]) := by
  have een : enumL (sz.map szD) = sz.zipIdx.map fun p => D.tup [dn p.2, szD p.1] := by
    unfold enumL
    rw [List.zipIdx_map, List.map_map]; rfl
  rw [een]
  obtain ⟨ρ', e, x6', x7', x8', x13', x14', rfl⟩ := for_mapped (tg := tTupG 2 (tsCons (tName 13) (tsCons (tTupG 2 (tsCons (tName 6) (tsCons (tName 7) (tsNil)))) (tsNil)))) (g := dSeq (dAsg (tName 14) (dIx gIxT (dVar 9) (dVar 13)))
    (dSeq (dAsg (tName 8) (dIf (dB (dOp gLt (dOp gAdd (dVar 14) (dC (.int 1))) (dOp gAdd (dVar 6) (dVar 7)))) (dOp gAdd (dVar 14) (dC (.int 1))) (dVar 6)))
    (dExp (dMtM gApp 12 (dCons (dTup (dCons (dMtM gIndex 10 (dCons (dOp gCatT (dOp gCatT (dSl gSlT (dVar 9) none (some (dVar 13))) (dTup (dCons (dVar 8) (dNil)))) (dSl gSlT (dVar 9) (some (dOp gAdd (dVar 13) (dC (.int 1)))) none)) (dNil))) (dCons (dIx gIxL (dIx gIxL (dVar 5) (dVar 13)) (dVar 14)) (dNil)))) (dNil)))))) (deps := [2])
    (ρ0 := [x0, x1, some (.lst (sz.map szD)), x3, x4, some (.lst (gvD gs)), x6, x7, x8, some (cellD c), some (.lst (od.map cellD)), x11, some (.lst []), x13, x14, none]) (φ := fun p : (Nat × Nat) × Nat => D.tup [dn p.2, szD p.1]) (l := sz.zipIdx)
    (ρ := [x0, x1, some (.lst (sz.map szD)), x3, x4, some (.lst (gvD gs)), x6, x7, x8, some (cellD c), some (.lst (od.map cellD)), x11, some (.lst []), x13, x14, none])
    (fun done ρ => ∃ x6 x7 x8 x13 x14, ρ = [x0, x1, some (.lst (sz.map szD)), x3, x4, some (.lst (gvD gs)), x6, x7, x8, some (cellD c), some (.lst (od.map cellD)), x11, some (.lst ((List.range done.length).map (entry sz od gs c))), x13, x14, none])
    (fun _ ρ h => by obtain ⟨x6, x7, x8, x13, x14, rfl⟩ := h; simp) ⟨x6, x7, x8, x13, x14, rfl⟩ (by
      rintro a ⟨⟨many, back⟩, w⟩ b ρ hl ⟨x6, x7, x8, x13, x14, rfl⟩
      have hw : sz.zipIdx[a.length]? = some ((many, back), w) := by rw [hl]; simp
      rw [List.getElem?_zipIdx] at hw
      obtain ⟨s', hs', e1⟩ := Option.map_eq_some_iff.mp hw
      simp at e1
      obtain ⟨rfl, e1⟩ := e1
      have hws : a.length < sz.length := (List.getElem?_eq_some_iff.mp hs').1
      have e2 : (List.range (a ++ [((many, back), w)]).length).map (entry sz od gs c) = (List.range a.length).map (entry sz od gs c) ++ [entry sz od gs c w] := by
        rw [List.length_append, List.length_singleton, List.range_succ, List.map_append, ← e1]; rfl
      rw [e2]
      have hll : ((List.range a.length).map (entry sz od gs c)).length ≤ 100 := by simp; omega
      rw [e1] at hs' hws
      generalize (List.range a.length).map (entry sz od gs c) = ln at *
      have hwc : w < c.length := by rw [hc.1]; exact hws
      have ec : c[w]? = some (c.getD w 0) := by rw [List.getD_eq_getElem?_getD, List.getElem?_eq_getElem hwc]; rfl
      have esz : sz.getD w (0, 0) = (many, back) := by rw [List.getD_eq_getElem?_getD, hs']; rfl
      have a1 : atI (c.map dn) (w : Int) = some (dn (c.getD w 0)) := PD.atI_nat (by rw [List.getElem?_map, ec]; rfl)
      have hlt := hc.2 w _ _ hs' ec
      have ap := adv_parts (sz := sz) hwc
      have ix := index_cell (c := adv sz w c) (l := od) ((O.mem _).mpr (adv_cell O.pos hc))
      have gw : gs[w]? = some (gs.getD w []) := by
        have : w < gs.length := by rw [hg.len]; exact hws
        rw [List.getD_eq_getElem?_getD, List.getElem?_eq_getElem this]; rfl
      have grow := hg.row w _ _ gw hs'
      have a2 : atI (gvD gs) (w : Int) = some (.lst ((gs.getD w []).map tg1)) := PD.atI_nat (by unfold gvD; rw [List.getElem?_map, gw]; rfl)
      have a3 : atI ((gs.getD w []).map tg1) ((c.getD w 0 : Nat) : Int) = some (tg1 ((gs.getD w []).getD (c.getD w 0) 0)) := PD.atI_nat (by
        have : c.getD w 0 < (gs.getD w []).length := by rw [grow]; exact hlt
        rw [List.getElem?_map, List.getD_eq_getElem?_getD (l := gs.getD w []), List.getElem?_eq_getElem this]; rfl)
      have ct := cut_take c w (by omega)
      have cd := cut_drop c (w + 1) (by omega)
      have cd' : cutL (c.map dn) (some ((w : Int) + 1)) none = (c.drop (w + 1)).map dn := cd
      have i1 : immL ((c.take w).map dn) = true := immL_dn _
      have i2 : immL ((c.drop (w + 1)).map dn) = true := immL_dn _
      have i3 : immL (c.map dn) = true := immL_dn _
      have hl1 : ((c.take w).map dn).length ≤ 100 := by simp; omega
      have hl2 : ((c.drop (w + 1)).map dn).length ≤ 100 := by have := hc.1; simp; omega
      have een : entry sz od gs c w = .tup [dn (od.idxOf (adv sz w c)), tg1 ((gs.getD w []).getD (c.getD w 0) 0)] := rfl
      rw [een]
      unfold cellD at ix ⊢
      rw [← ap, esz] at ix
      generalize od.map (fun c => D.tup (c.map dn)) = odl at *
      generalize hix : od.idxOf (adv sz w c) = ixn at *
      generalize (gs.getD w []).getD (c.getD w 0) 0 = gvn at *
      generalize (gs.getD w []).map tg1 = grl at *
      generalize gvD gs = gl at *
      generalize sz.map szD = szl at *
      generalize hcw : c.getD w 0 = cw at *
      generalize (c.take w).map dn = ctk at *
      generalize (c.drop (w + 1)).map dn = cdr at *
      generalize c.map dn = cl at *
      refine ⟨_, [x0, x1, some (.lst szl), x3, x4, some (.lst gl), some (dn many), some (dn back), some (dn (nxc (many, back) cw)), some (.tup cl), some (.lst odl), x11, some (.lst (ln ++ [.tup [dn ixn, tg1 gvn]])), some (dn w), some (dn cw), none], by simp [szD]; rfl, .inl ?_, _, _, _, _, _, rfl⟩
      refine seq_to (ρ1 := [x0, x1, some (.lst szl), x3, x4, some (.lst gl), some (dn many), some (dn back), x8, some (.tup cl), some (.lst odl), x11, some (.lst ln), some (dn w), some (dn cw), none]) (by simp [i3, a1]) ?_
      refine seq_to (ρ1 := [x0, x1, some (.lst szl), x3, x4, some (.lst gl), some (dn many), some (dn back), some (dn (nxc (many, back) cw)), some (.tup cl), some (.lst odl), x11, some (.lst ln), some (dn w), some (dn cw), none]) ?_ ?_
      · unfold nxc
        by_cases h3 : cw + 1 < many + back
        · have h4 : ((cw : Int) + 1 < (many : Int) + (back : Int)) := by omega
          simp [h3, h4]
        · have h4 : ¬ ((cw : Int) + 1 < (many : Int) + (back : Int)) := by omega
          simp [h3, h4]
      · generalize nxc (many, back) cw = nx at *
        have hl3 : ctk.length + 1 ≤ LIM := by rw [lim_eq]; omega
        have hl4 : ctk.length + 1 + cdr.length ≤ LIM := by rw [lim_eq]; omega
        have hl5 : ln.length < LIM := by rw [lim_eq]; omega
        have hl6 : ctk.length + (cdr.length + 1) ≤ LIM := by rw [lim_eq]; omega
        have ix' : gIndex odl [.tup (ctk ++ dn nx :: cdr)] = some (dn ixn, odl) := by rw [← ix]; simp
        simp [i1, i2, i3, ct, cd', ix', a2, a3, hl3, hl4, hl5, hl6, show 1 ≤ LIM by decide, show 2 ≤ LIM by decide])
  rw [List.length_zipIdx] at e
  exact ⟨x6', x7', x8', x13', x14', e⟩
end
end L47
end
end
section
set_option Elab.async false
set_option linter.all false
set_option maxRecDepth 100000
noncomputable section
namespace L47
open PD L2 CM
section
theorem gval_le {gs : List (List Int)} {sz : List (Nat × Nat)} (hg : GvOk gs sz) (od : List (List Nat)) (w m : Nat) : (gval gs od w m).natAbs < 1000 := by
  unfold gval
  generalize (od.getD m []).getD w 0 = k
  rw [List.getD_eq_getElem?_getD, List.getD_eq_getElem?_getD (l := gs)]
  cases h : gs[w]? with
  | none => simp
  | some r =>
    have hr := hg.le r (List.mem_of_getElem? h)
    simp only [Option.getD_some]
    cases h2 : r[k]? with
    | none => simp
    | some x =>
      have := hr x (List.mem_of_getElem? h2)
      simp only [Option.getD_some]
      omega
theorem order_of {sz : List (Nat × Nat)} (hp : ∀ s ∈ sz, 0 < s.2) {r r' : List (List Nat)} (e : cellsN sz = List.replicate sz.length 0 :: r) (p : r'.Perm r) : Order sz (List.replicate sz.length 0 :: r') where
  pos := hp
  nd := by
    have := cellsN_nodup sz
    rw [e] at this
    exact (p.cons _).nodup_iff.mpr this
  mem := fun c => by
    rw [(p.cons (List.replicate sz.length 0)).mem_iff, ← e]
    exact cellsN_mem sz c
  hd := rfl
theorem grid1 {s : D} (hs : IsSrc s) {sz : List (Nat × Nat)} (h1 : 0 < sz.length) (h2 : sz.length ≤ 2) (hp : ∀ s ∈ sz, 0 < s.2) (h4 : ∀ s ∈ sz, s.1 + s.2 ≤ 4) :
    ∃ d s', p__law_grid [s, dn sz.length, .lst (sz.map szD)] = some (.ok d [some s', none, some (.lst (sz.map szD))]) ∧ IsSrc s' ∧ Good d := by
  obtain ⟨s1, gs, x6, x7, x8, x9, e1, hs1, hg⟩ := grid_sizes hs h2 hp h4
  obtain ⟨r, er⟩ := cellsN_head sz hp
  have hcl := cellsN_le h4
  have hcl2 : (cellsN sz).length ≤ 16 := Nat.le_trans hcl (by
    have : sz.length = 1 ∨ sz.length = 2 := by omega
    rcases this with h | h <;> rw [h] <;> decide)
  rw [er] at e1 hcl2
  simp only [List.length_cons] at hcl2
  -- the sequence
  obtain ⟨ys, s2, e2, hs2, hperm⟩ := mixed_ok hs1 (xs := r.map cellD) (by simp) (by rw [List.length_map]; omega)
  obtain ⟨r', rfl, hp'⟩ := perm_map_ex cellD hperm r rfl
  have O := order_of hp er hp'
  have hrl : r'.length = r.length := hp'.length_eq
  have N := O.net
  have hol : (List.replicate sz.length 0 :: r').length ≤ 16 := by simp only [List.length_cons]; omega
  generalize hod : List.replicate sz.length 0 :: r' = od at *
  have hlo : od.length ≤ 16 := hol
  -- the rows
  obtain ⟨ρ', e3, y6, y7, y8, y9, y12, y13, y14, rfl⟩ := for_mapped (tg := tName 9) (g := dSeq (dAsg (tName 12) (dLst (dNil)))
    (dSeq (dFor [0, 2, 10] (tTupG 2 (tsCons (tName 13) (tsCons (tTupG 2 (tsCons (tName 6) (tsCons (tName 7) (tsNil)))) (tsNil)))) (dIterL gEnumL (dCons (dVar 2) (dNil))) (dSeq (dAsg (tName 14) (dIx gIxT (dVar 9) (dVar 13)))
    (dSeq (dAsg (tName 8) (dIf (dB (dOp gLt (dOp gAdd (dVar 14) (dC (.int 1))) (dOp gAdd (dVar 6) (dVar 7)))) (dOp gAdd (dVar 14) (dC (.int 1))) (dVar 6)))
    (dExp (dMtM gApp 12 (dCons (dTup (dCons (dMtM gIndex 10 (dCons (dOp gCatT (dOp gCatT (dSl gSlT (dVar 9) none (some (dVar 13))) (dTup (dCons (dVar 8) (dNil)))) (dSl gSlT (dVar 9) (some (dOp gAdd (dVar 13) (dC (.int 1)))) none)) (dNil))) (dCons (dIx gIxL (dIx gIxL (dVar 5) (dVar 13)) (dVar 14)) (dNil)))) (dNil)))))))
    (dExp (dMtM gApp 11 (dCons (dCB gTupOf (dCons (dVar 12) (dNil))) (dNil)))))) (deps := [10])
    (ρ0 := [some s2, some (dn sz.length), some (.lst (sz.map szD)), some (.dic []), some (.lst ((List.replicate sz.length 0 :: r).map cellD)), some (.lst (gvD gs)), x6, x7, x8, x9, some (.lst (od.map cellD)), some (.lst []), none, none, none, none]) (φ := cellD) (l := od)
    (ρ := [some s2, some (dn sz.length), some (.lst (sz.map szD)), some (.dic []), some (.lst ((List.replicate sz.length 0 :: r).map cellD)), some (.lst (gvD gs)), x6, x7, x8, x9, some (.lst (od.map cellD)), some (.lst []), none, none, none, none])
    (fun done ρ => ∃ y6 y7 y8 y9 y12 y13 y14, ρ = [some s2, some (dn sz.length), some (.lst (sz.map szD)), some (.dic []), some (.lst ((List.replicate sz.length 0 :: r).map cellD)), some (.lst (gvD gs)), y6, y7, y8, y9, some (.lst (od.map cellD)), some (.lst (done.map fun c => .tup ((List.range sz.length).map (entry sz od gs c)))), y12, y13, y14, none])
    (fun _ ρ h => by obtain ⟨y6, y7, y8, y9, y12, y13, y14, rfl⟩ := h; simp) ⟨x6, x7, x8, x9, none, none, none, rfl⟩ (by
      rintro a c b ρ hl ⟨y6, y7, y8, y9, y12, y13, y14, rfl⟩
      have hc : IsCell sz c := (O.mem c).mp (by rw [hl]; simp)
      rw [List.map_append, List.map_singleton]
      have hal : a.length ≤ 16 := by have := congrArg List.length hl; simp at this; omega
      have hll : (a.map fun c => D.tup ((List.range sz.length).map (entry sz od gs c))).length < 100000 := by rw [List.length_map]; omega
      generalize a.map (fun c => D.tup ((List.range sz.length).map (entry sz od gs c))) = rows at *
      obtain ⟨z6, z7, z8, z13, z14, e4⟩ := row_step O hg (by omega) hc (x0 := some s2) (x1 := some (dn sz.length)) (x3 := some (.dic [])) (x4 := some (.lst ((List.replicate sz.length 0 :: r).map cellD))) (x6 := y6) (x7 := y7) (x8 := y8) (x11 := some (.lst rows)) (x13 := y13) (x14 := y14)
      have im : immL ((List.range sz.length).map (entry sz od gs c)) = true := by simp
      have im2 : immL (sz.map szD) = true := by simp
      have ge : gEnumL [.lst (sz.map szD)] = some (enumL (sz.map szD)) := by unfold gEnumL; simp only [ev_lis_lst, Option.bind_some, im2, if_true]
      have im3 : immL (enumL (sz.map szD)) = true := by
        unfold enumL
        rw [List.zipIdx_map, List.map_map, immL_map]
        simp
      generalize (List.range sz.length).map (entry sz od gs c) = ln at *
      generalize (List.replicate sz.length 0 :: r).map cellD = old at *
      generalize sz.map szD = szl at *
      generalize enumL szl = en at *
      generalize od.map cellD = odl at *
      refine ⟨_, [some s2, some (dn sz.length), some (.lst szl), some (.dic []), some (.lst old), some (.lst (gvD gs)), z6, z7, z8, some (cellD c), some (.lst odl), some (.lst (rows ++ [.tup ln])), some (.lst ln), z13, z14, none], rfl, .inl ?_, z6, z7, z8, some (cellD c), some (.lst ln), z13, z14, rfl⟩
      refine seq_to (ρ1 := [some s2, some (dn sz.length), some (.lst szl), some (.dic []), some (.lst old), some (.lst (gvD gs)), y6, y7, y8, some (cellD c), some (.lst odl), some (.lst rows), some (.lst []), y13, y14, none]) (by simp [lim_eq]) ?_
      refine seq_to (ρ1 := [some s2, some (dn sz.length), some (.lst szl), some (.dic []), some (.lst old), some (.lst (gvD gs)), z6, z7, z8, some (cellD c), some (.lst odl), some (.lst rows), some (.lst ln), z13, z14, none]) ?_ ?_
      · rw [ev_dFor]
        simp [ge, im3]
        exact e4
      · simp [im, hll, lim_eq])
  have erow : od.map (fun c => D.tup ((List.range sz.length).map (entry sz od gs c))) = (List.range od.length).map fun m => rwD sz.length fun w => some (stepO sz od w m, gval gs od w m) := by
    apply List.ext_getElem
    · simp
    · intro i h1 h2
      simp only [List.length_map] at h1
      have e : od.getD i [] = od[i] := by rw [List.getD_eq_getElem?_getD, List.getElem?_eq_getElem h1]; rfl
      simp only [List.getElem_map, List.getElem_range, rwD]
      congr 1
      apply List.map_congr_left
      intro w _
      unfold entry stepO gval stD
      rw [e]; rfl
  rw [erow] at e3
  refine ⟨MD od.length sz.length (fun w m => some (stepO sz od w m, gval gs od w m)), s2, ?_, hs2, ?_⟩
  · unfold MD
    have him : immL ((List.range od.length).map fun m => rwD sz.length fun w => some (stepO sz od w m, gval gs od w m)) = true := by simp
    have im4 : immL (od.map cellD) = true := by simp
    have im5 : immL (r.map cellD) = true := by simp
    have im6 : immL (r'.map cellD) = true := by simp
    have im7 : immL ((List.replicate sz.length 0 :: r).map cellD) = true := by simp
    have im2 : immL (sz.map szD) = true := by simp
    have ec : cutL ((List.replicate sz.length 0 :: r).map cellD) (some 1) none = r.map cellD := by
      unfold cutL
      have e1 : ∀ n d : Nat, HT.sIx n d (some 1) = min 1 n := fun n d => HT.sIx_nat n d 1
      rw [e1, HT.sIx_none, List.map_cons, List.length_cons, show min 1 ((r.map cellD).length + 1) = 1 by omega, List.drop_succ_cons, List.drop_zero, List.take_of_length_le (by omega)]
    have ehead : atI ((List.replicate sz.length 0 :: r).map cellD) 0 = some (cellD (List.replicate sz.length 0)) := by rw [List.map_cons]; exact atI_0 _ _
    have eod : od.map cellD = [cellD (List.replicate sz.length 0)] ++ r'.map cellD := by rw [← hod]; rfl
    have hr6 : (r'.map cellD).length ≤ 100 := by rw [List.length_map]; omega
    obtain ⟨c1, c2, c3, c4, rfl, -⟩ := hs1.ex
    obtain ⟨c5, c6, c7, c8, rfl, -⟩ := hs2.ex
    generalize (List.range od.length).map (fun m => rwD sz.length fun w => some (stepO sz od w m, gval gs od w m)) = rows at *
    generalize (List.replicate sz.length 0 :: r).map cellD = old at *
    generalize sz.map szD = szl at *
    rw [eod] at e3 im4
    generalize r'.map cellD = rl' at *
    generalize r.map cellD = rl at *
    generalize hz : cellD (List.replicate sz.length 0) = zc at *
    have imz : zc.imm = true := by rw [← hz]; simp
    have e2' : p__law_mixed [srcD c1 c2 c3 c4, .lst rl] = some (.ok (.lst rl') [some (srcD c5 c6 c7 c8), none]) := e2
    have hr7 : rl'.length + 1 ≤ LIM := by rw [lim_eq]; omega
    have hr8 : 1 + rl'.length ≤ LIM := by rw [lim_eq]; omega
    refine (def_ret (d := .tup [dn sz.length, .int 1, .tup rows]) (ρ := [some (srcD c5 c6 c7 c8), some (dn sz.length), some (.lst szl), some (.dic []), some (.lst old), some (.lst (gvD gs)), y6, y7, y8, y9, some (.lst ([zc] ++ rl')), some (.lst rows), y12, y13, y14, none]) rfl ?_).trans rfl
    refine seq_to (ρ1 := [some s, some (dn sz.length), some (.lst szl), some (.dic []), some (.lst [cellD []]), some (.lst []), none, none, none, none, none, none, none, none, none, none]) (by simp [cellD, lim_eq]) ?_
    refine seq_to (ρ1 := [some (srcD c1 c2 c3 c4), some (dn sz.length), some (.lst szl), some (.dic []), some (.lst old), some (.lst (gvD gs)), x6, x7, x8, x9, none, none, none, none, none, none]) ?_ ?_
    · rw [ev_dFor]
      simp [im2]
      exact e1
    refine seq_to (ρ1 := [some (srcD c5 c6 c7 c8), some (dn sz.length), some (.lst szl), some (.dic []), some (.lst old), some (.lst (gvD gs)), x6, x7, x8, x9, some (.lst ([zc] ++ rl')), none, none, none, none, none]) ?_ ?_
    · simp [ehead, imz, im7, ec, im5, e2', im6, hr7, hr8, show 1 ≤ LIM by decide]
    refine seq_to (ρ1 := [some (srcD c5 c6 c7 c8), some (dn sz.length), some (.lst szl), some (.dic []), some (.lst old), some (.lst (gvD gs)), x6, x7, x8, x9, some (.lst ([zc] ++ rl')), some (.lst []), none, none, none, none]) (by simp [lim_eq]) ?_
    refine seq_to (ρ1 := [some (srcD c5 c6 c7 c8), some (dn sz.length), some (.lst szl), some (.dic []), some (.lst old), some (.lst (gvD gs)), y6, y7, y8, y9, some (.lst ([zc] ++ rl')), some (.lst rows), y12, y13, y14, none]) ?_ ?_
    · rw [ev_dFor]
      generalize [zc] ++ rl' = ol at *
      simp [im4]
      exact e3
    · simp [him, lim_eq]
  · obtain ⟨ins, hins⟩ : ∃ ins, sz.length = ins + 1 := ⟨sz.length - 1, by omega⟩
    rw [hins] at N ⊢
    exact ⟨od.length, ins, _, stepO sz od, gval gs od, rfl, ⟨fun w m _ _ => rfl, N.lt⟩, N, by omega, by omega, fun w m => gval_le hg od w m⟩
end
end L47
end
end
section
set_option Elab.async false
set_option linter.all false
set_option maxRecDepth 100000
noncomputable section
namespace L47
open PD L2 CM
section
variable {n ins : Nat} {F : Nat → Nat → Option (Nat × Int)} {f : Nat → Nat → Nat} {g : Nat → Nat → Int} {Lf tf : Nat → Nat} {h p : List Nat}
theorem MD_ok (S : Steps n ins F f g) (hb : n < 64) (hi : ins ≤ 6) (hg : ∀ w m, (g w m).natAbs < 1000) :
    (MD n ins F).rOk = true ∧ (MD n ins F).rLen ≤ 100000 ∧ (toP (MD n ins F)).depth ≤ 5 := by
  have st : ∀ m, m < n → ∀ w, w < ins → (stD (F w m)).rOk = true ∧ (stD (F w m)).rLen ≤ 60 ∧ (toP (stD (F w m))).depth ≤ 2 := fun m hm w hw => by
    rw [S.at_ w m hw hm, stD_some]
    have h1 := rOk_dn (m := f w m) (by have := S.lt w m hw hm; omega)
    have h2 := rOk_int (hg w m)
    refine ⟨?_, ?_, ?_⟩
    · simp only [D.rOk, rOkL, tg1] at h1 h2 ⊢
      rw [h1, h2]; rfl
    · simp [D.rLen, rLenL, tg1]
    · simp [toP, toPL, tg1, PySem.PyData.depth, PySem.PyData.depthAll]
  have rw_ : ∀ m, m < n → (rwD ins fun w => F w m).rOk = true ∧ (rwD ins fun w => F w m).rLen ≤ 380 ∧ (toP (rwD ins fun w => F w m)).depth ≤ 3 := fun m hm => by
    unfold rwD
    dsimp only
    refine ⟨?_, ?_, ?_⟩
    · rw [D.rOk]; exact rOkL_map _ _ fun w hw => (st m hm w (List.mem_range.mp hw)).1
    · rw [D.rLen]
      have := rLenL_map (fun w => stD (F w m)) 60 (List.range ins) fun w hw => (st m hm w (List.mem_range.mp hw)).2.1
      rw [List.length_range] at this
      omega
    · rw [toP, PySem.PyData.depth]
      have := depL_map (fun w => stD (F w m)) 2 (List.range ins) fun w hw => (st m hm w (List.mem_range.mp hw)).2.2
      omega
  have h1 := rOkL_map (fun m => rwD ins fun w => F w m) (List.range n) fun m hm => (rw_ m (List.mem_range.mp hm)).1
  have h2 := rLenL_map (fun m => rwD ins fun w => F w m) 380 (List.range n) fun m hm => (rw_ m (List.mem_range.mp hm)).2.1
  have h3 := depL_map (fun m => rwD ins fun w => F w m) 3 (List.range n) fun m hm => (rw_ m (List.mem_range.mp hm)).2.2
  rw [List.length_range] at h2
  have h4 := rOk_dn (m := ins) (by omega)
  have h5 := rOk_dn (m := 1) (by omega)
  unfold MD
  generalize (List.range n).map (fun m => rwD ins fun w => F w m) = rows at *
  refine ⟨?_, ?_, ?_⟩
  · simp only [D.rOk, rOkL] at h4 h5 ⊢
    rw [h4, h1]
    rfl
  · simp only [D.rLen, rLenL]; omega
  · simp only [toP, toPL, PySem.PyData.depth, PySem.PyData.depthAll]; omega
/-- what the law asks of each machine -/
def ask (c : PySem.Value) : Sv := dSeq (dPar3 7 8 9 (dCons (dCB gRepr (dCons (dVar 5) (dNil))) (dCons (dCall p__law_again (dCons (dVar 5) (dNil))) (dCons (dCall p__law_home (dCons (dVar 5) (dNil))) (dNil)))))
    (dSeq (dIfS (dB (dOp gNe (dCB gRepr (dCons (dLst (dCons (dCall (p_modes_again c) (dCons (dVar 5) (dNil))) (dCons (dCall (p_home_input c) (dCons (dVar 5) (dNil))) (dNil)))) (dNil))) (dCB gRepr (dCons (dLst (dCons (dVar 8) (dCons (dVar 9) (dNil)))) (dNil))))) (dRet (dC (.bl false))) (dNil'))
    (dSeq (dAsg (tName 10) (dCall p__law_led (dCons (dVar 5) (dCons (dC (.int 0)) (dCons (dVar 9) (dNil))))))
    (dSeq (dIfS (dOr (dB (dOp gNe (dCB gRepr (dCons (dCall (p_home_mode c) (dCons (dVar 5) (dNil))) (dNil))) (dCB gRepr (dCons (dVar 10) (dNil))))) (dB (dOp (gInN true) (dVar 10) (dVar 8)))) (dRet (dC (.bl false))) (dNil'))
    (dSeq (dFor [] (tName 11) (dIter1 D.lis (dSl gSlL (dCall p__law_modes (dCons (dVar 5) (dCons (dC (.int 0)) (dNil)))) none (some (dC (.int 5))))) (dSeq (dAsg (tName 12) (dCall p__law_led (dCons (dVar 5) (dCons (dVar 11) (dCons (dVar 9) (dNil))))))
    (dIfS (dOr (dB (dOp (gInN true) (dVar 12) (dVar 8))) (dB (dOp gNe (dCall p__law_led (dCons (dVar 5) (dCons (dVar 12) (dCons (dVar 9) (dNil))))) (dVar 12)))) (dRet (dC (.bl false))) (dNil'))))
    (dSeq (dIfS (dOr (dNot (dB (dCall p__law_group_right (dCons (dVar 5) (dCons (dVar 8) (dCons (dVar 10) (dNil))))))) (dB (dOp gNe (dCB gRepr (dCons (dVar 5) (dNil))) (dVar 7)))) (dRet (dC (.bl false))) (dNil'))
    (dIfS (dNot (dB (dCall (p__law_never_right c) (dCons (dVar 5) (dNil))))) (dRet (dC (.bl false))) (dNil')))))))
theorem ask_ok {c : PySem.Value} {d : D} (G : Good d) {x0 x1 x2 x3 x4 x6 x7 x8 x9 x10 x11 x12 : Option D} :
    ∃ y7 y8 y9 y10 y11 y12, ask c [x0, x1, x2, x3, x4, some d, x6, x7, x8, x9, x10, x11, x12, none, none, none, none] = some (.nx [x0, x1, x2, x3, x4, some d, x6, y7, y8, y9, y10, y11, y12, none, none, none, none]) := by
  obtain ⟨n, ins, F, f, g, rfl, S, N, hb, hi, hg⟩ := G.ex
  obtain ⟨Lf, tf, X⟩ := lns_ex S N.pos (by omega)
  have H := home_of N X
  obtain ⟨m1, m2, m3⟩ := MD_ok S hb (by omega) hg
  obtain ⟨sM, r1, r2, r3⟩ := repr_ok m1 m2 (by omega)
  have la := law_again1 S N hb
  have lh := law_home1 S N X (by omega) (by omega)
  have ma := modes_again1 (c := c) S N X (Nat.le_refl n) (by omega) hb (by omega)
  have hi1 := home_input1 (c := c) S N X (Nat.le_refl n) (by omega) (by omega)
  have hm1 := home_mode1 (c := c) S N X (Nat.le_refl n) (by omega) (by omega)
  have hlt : ∀ a ∈ homeL (ins + 1) Lf tf, a < 1000 := fun a ha => by
    obtain ⟨w, hw, rfl⟩ := List.mem_map.mp ha
    have hw := List.mem_range.mp hw
    have := hN_le (X.ln w hw).ht
    have := X.le w hw
    omega
  have ll := lot_len (n := n) (ins := ins + 1) (f := f)
  obtain ⟨d1, d2, d3⟩ := dns_ok (l := lotN n (ins + 1) f) (fun x hx => by have := (lot_mem.mp hx).1; omega)
  obtain ⟨d4, d5, d6⟩ := dns_ok (l := homeL (ins + 1) Lf tf) hlt
  have hhl : (homeL (ins + 1) Lf tf).length = ins + 1 := H.hl
  obtain ⟨s2, u1, u2, u3⟩ := repr_ok (d := .lst [.tup ((lotN n (ins + 1) f).map dn), .tup ((homeL (ins + 1) Lf tf).map dn)]) (by simp only [D.rOk, rOkL] at d1 d4 ⊢; rw [d1, d4]; rfl)
    (by simp only [D.rLen, rLenL] at d2 d5 ⊢; omega) (by simp only [toP, toPL, PySem.PyData.depth, PySem.PyData.depthAll] at d3 d6 ⊢; omega)
  have ldh : ∀ m, m < n → p__law_led [MD n (ins + 1) F, dn m, .tup ((homeL (ins + 1) Lf tf).map dn)] = some (.ok (dn (ledF f (homeL (ins + 1) Lf tf) 0 m)) [none, none, none]) := fun m hm =>
    law_led1 S hm _ (by omega) hlt
  have cF := Cm.led N (homeL (ins + 1) Lf tf) 0 (by omega)
  have idem : ∀ m, m < n → ledF f (homeL (ins + 1) Lf tf) 0 (ledF f (homeL (ins + 1) Lf tf) 0 m) = ledF f (homeL (ins + 1) Lf tf) 0 m := fun m hm => H.idem N hm
  have inlot : ∀ m, m < n → gInN true (dn (ledF f (homeL (ins + 1) Lf tf) 0 m)) (.tup ((lotN n (ins + 1) f).map dn)) = some (.bl false) := fun m hm => by
    rw [(gInN_dn true _ _).2, if_pos rfl, decide_eq_true (lot_mem.mpr ((H.again N (cF.lt m hm)).mpr (idem m hm)))]
    rfl
  have gr := group_right1 S N H hb (by omega)
  have nr := never_right1 (c := c) S N X hb (by omega)
  have l0 := ldh 0 N.pos
  have i0 := inlot 0 N.pos
  have c0 := cF.lt 0 N.pos
  obtain ⟨s3, v1, v2, v3⟩ := repr_ok (d := dn (ledF f (homeL (ins + 1) Lf tf) 0 0)) (rOk_dn (by omega)) (by simp [D.rLen]) (by simp [toP, PySem.PyData.depth])
  obtain ⟨fd, e1, nd, hfd⟩ := law_modes1 S (by omega) N.pos
  obtain ⟨l1, ecut, hl1⟩ := cut_map fd dn none (some 5)
  have iml : immL ((lotN n (ins + 1) f).map dn) = true := immL_dn _
  have imh : immL ((homeL (ins + 1) Lf tf).map dn) = true := immL_dn _
  have imd : (MD n (ins + 1) F).imm = true := MD_imm _ _ _
  generalize MD n (ins + 1) F = M at *
  generalize homeL (ins + 1) Lf tf = hl at *
  generalize (lotN n (ins + 1) f).map dn = lt at *
  generalize hl.map dn = ht at *
  obtain ⟨ρ', e2, y11, y12, rfl⟩ := for_mapped (tg := tName 11) (g := dSeq (dAsg (tName 12) (dCall p__law_led (dCons (dVar 5) (dCons (dVar 11) (dCons (dVar 9) (dNil))))))
    (dIfS (dOr (dB (dOp (gInN true) (dVar 12) (dVar 8))) (dB (dOp gNe (dCall p__law_led (dCons (dVar 5) (dCons (dVar 12) (dCons (dVar 9) (dNil))))) (dVar 12)))) (dRet (dC (.bl false))) (dNil'))) (deps := [])
    (ρ0 := [x0, x1, x2, x3, x4, some M, x6, some (.str sM), some (.tup lt), some (.tup ht), some (dn (ledF f hl 0 0)), x11, x12, none, none, none, none]) (φ := dn) (l := l1)
    (ρ := [x0, x1, x2, x3, x4, some M, x6, some (.str sM), some (.tup lt), some (.tup ht), some (dn (ledF f hl 0 0)), x11, x12, none, none, none, none])
    (fun _ ρ => ∃ x11 x12, ρ = [x0, x1, x2, x3, x4, some M, x6, some (.str sM), some (.tup lt), some (.tup ht), some (dn (ledF f hl 0 0)), x11, x12, none, none, none, none]) (fun _ _ _ => rfl) ⟨x11, x12, rfl⟩ (by
      rintro a m b ρ hl2 ⟨x11, x12, rfl⟩
      have hm : m < n := N.rc_lt N.pos ((hfd m).mp (hl1 m (by rw [hl2]; simp)))
      have q1 := ldh m hm
      have q2 := inlot m hm
      have q3 := ldh _ (cF.lt m hm)
      rw [idem m hm] at q3
      have q4 := gNe_dn (ledF f hl 0 m) (ledF f hl 0 m)
      rw [decide_eq_true rfl] at q4
      generalize ledF f hl 0 m = tm at *
      refine ⟨_, [x0, x1, x2, x3, x4, some M, x6, some (.str sM), some (.tup lt), some (.tup ht), some (dn (ledF f hl 0 0)), some (dn m), some (dn tm), none, none, none, none], rfl, .inl ?_, _, _, rfl⟩
      refine seq_to (ρ1 := [x0, x1, x2, x3, x4, some M, x6, some (.str sM), some (.tup lt), some (.tup ht), some (dn (ledF f hl 0 0)), some (dn m), some (dn tm), none, none, none, none]) (by simp [imd, imh, q1]) ?_
      simp [iml, q2, imd, imh, q3, q4])
  refine ⟨some (.str sM), some (.tup lt), some (.tup ht), some (dn (ledF f hl 0 0)), y11, y12, ?_⟩
  unfold ask
  generalize ledF f hl 0 0 = hm at *
  have l0' : p__law_led [M, .int 0, .tup ht] = _ := l0
  have e1' : p__law_modes [M, .int 0] = _ := e1
  refine seq_to (ρ1 := [x0, x1, x2, x3, x4, some M, x6, some (.str sM), some (.tup lt), some (.tup ht), x10, x11, x12, none, none, none, none]) (by simp [imd, r1, la, lh]) ?_
  refine seq_to (ρ1 := [x0, x1, x2, x3, x4, some M, x6, some (.str sM), some (.tup lt), some (.tup ht), x10, x11, x12, none, none, none, none]) (by simp [imd, iml, imh, ma, hi1, u1, u3, show 2 ≤ LIM by decide]) ?_
  refine seq_to (ρ1 := [x0, x1, x2, x3, x4, some M, x6, some (.str sM), some (.tup lt), some (.tup ht), some (dn hm), x11, x12, none, none, none, none]) (by simp [imd, imh, l0']) ?_
  refine seq_to (ρ1 := [x0, x1, x2, x3, x4, some M, x6, some (.str sM), some (.tup lt), some (.tup ht), some (dn hm), x11, x12, none, none, none, none]) (by
    simp only [dn] at hm1 v1 i0
    simp [imd, iml, hm1, v1, v3, i0]) ?_
  refine seq_to (ρ1 := [x0, x1, x2, x3, x4, some M, x6, some (.str sM), some (.tup lt), some (.tup ht), some (dn hm), y11, y12, none, none, none, none]) ?_ ?_
  · rw [ev_dFor]
    simp [imd, e1', ecut]
    exact e2
  refine seq_to (ρ1 := [x0, x1, x2, x3, x4, some M, x6, some (.str sM), some (.tup lt), some (.tup ht), some (dn hm), y11, y12, none, none, none, none]) (by
    simp only [dn] at gr
    simp [imd, iml, gr, r1, r3]) ?_
  simp [imd, nr]
end
end L47
end
end
section
set_option Elab.async false
set_option linter.all false
set_option maxRecDepth 100000
noncomputable section
namespace L47
open PD L2 CM
section
theorem lot_eq {n ins : Nat} {f : Nat → Nat → Nat} {l : List Nat} {b : Nat → Bool} (e : (List.range n).filter b = l) (h : ∀ m, m < n → (Again n ins f m ↔ b m = true)) : lotN n ins f = l := by
  classical
  unfold lotN
  rw [← e]
  apply List.filter_congr
  intro m hm
  have := h m (List.mem_range.mp hm)
  cases hb : b m with
  | true => rw [hb] at this; exact decide_eq_true (this.mpr rfl)
  | false => rw [hb] at this; exact decide_eq_false fun a => nomatch this.mp a
/-! ### the two machines at the end -/
def fH : Nat → Nat → Nat := fun _ m => 1 - m
def fN : Nat → Nat → Nat := fun _ _ => 1
def gH : Nat → Nat → Int := fun _ m => if m = 0 then 0 else 1
def gN : Nat → Nat → Int := fun _ m => if m = 0 then 1 else 0
def halves : D := .tup [.int 1, .int 1, .tup [.tup [.tup [.int 1, .tup [.int 0]]], .tup [.tup [.int 0, .tup [.int 1]]]]]
def first : D := .tup [.int 1, .int 1, .tup [.tup [.tup [.int 1, .tup [.int 1]]], .tup [.tup [.int 1, .tup [.int 0]]]]]
theorem halves_eq : halves = MD 2 1 fun w m => some (fH w m, gH w m) := rfl
theorem first_eq : first = MD 2 1 fun w m => some (fN w m, gN w m) := rfl
theorem netH : Net 2 1 fH where
  pos := by omega
  lt := fun w m _ hm => by unfold fH; omega
  comm := fun v w m _ _ _ => rfl
  all := fun m hm => by
    have : m = 0 ∨ m = 1 := by omega
    rcases this with rfl | rfl
    · exact .refl 0
    · exact .tail (w := 0) (.refl 0) (by omega)
theorem netN : Net 2 1 fN where
  pos := by omega
  lt := fun w m _ hm => by unfold fN; omega
  comm := fun v w m _ _ _ => rfl
  all := fun m hm => by
    have : m = 0 ∨ m = 1 := by omega
    rcases this with rfl | rfl
    · exact .refl 0
    · exact .tail (w := 0) (.refl 0) (by omega)
theorem lnsH : Lns 2 1 fH (fun _ => 2) (fun _ => 0) where
  ln := fun w _ => ⟨by omega, fun i j h1 h2 => by
    have : i = 0 ∧ j = 1 := by omega
    obtain ⟨rfl, rfl⟩ := this
    show (0 : Nat) ≠ 1
    decide, rfl⟩
  le := fun _ _ => by omega
theorem lnsN : Lns 2 1 fN (fun _ => 2) (fun _ => 1) where
  ln := fun w _ => ⟨by omega, fun i j h1 h2 => by
    have : i = 0 ∧ j = 1 := by omega
    obtain ⟨rfl, rfl⟩ := this
    show (0 : Nat) ≠ 1
    decide, rfl⟩
  le := fun _ _ => by omega
theorem end_ok (c : PySem.Value) : p_modes_again c [halves] = some (.ok (.tup [.int 0, .int 1]) [none]) ∧ p_home_input c [halves] = some (.ok (.tup [.int 0]) [none]) ∧ p_modes_again c [first] = some (.ok (.tup [.int 1]) [none]) ∧ p_home_input c [first] = some (.ok (.tup [.int 1]) [none]) ∧ p_home_mode c [first] = some (.ok (.int 1) [none]) := by
  have SH : Steps 2 1 (fun w m => some (fH w m, gH w m)) fH gH := ⟨fun w m _ _ => rfl, netH.lt⟩
  have SN : Steps 2 1 (fun w m => some (fN w m, gN w m)) fN gN := ⟨fun w m _ _ => rfl, netN.lt⟩
  have l1 : lotN 2 1 fH = [0, 1] := lot_eq (b := fun _ => true) (by decide) fun m hm => by
    rw [(home_of netH lnsH).again netH hm]
    have : m = 0 ∨ m = 1 := by omega
    rcases this with rfl | rfl <;> decide
  have l2 : lotN 2 1 fN = [1] := lot_eq (b := fun m => m == 1) (by decide) fun m hm => by
    rw [(home_of netN lnsN).again netN hm]
    have : m = 0 ∨ m = 1 := by omega
    rcases this with rfl | rfl <;> decide
  have a1 := modes_again1 (c := c) SH netH lnsH (Nat.le_refl _) (by omega) (by omega) (by omega)
  have a2 := modes_again1 (c := c) SN netN lnsN (Nat.le_refl _) (by omega) (by omega) (by omega)
  have b1 := home_input1 (c := c) SH netH lnsH (Nat.le_refl _) (by omega) (by omega)
  have b2 := home_input1 (c := c) SN netN lnsN (Nat.le_refl _) (by omega) (by omega)
  have c2 := home_mode1 (c := c) SN netN lnsN (Nat.le_refl _) (by omega) (by omega)
  rw [l1] at a1
  rw [l2] at a2
  exact ⟨a1, b1, a2, b2, c2⟩
/-! ### the draws -/
def SZ : List (Nat × Nat) := [(0, 2), (0, 3), (1, 2), (2, 1), (1, 1), (0, 4), (2, 2)]
theorem drawn_grid {s : D} (hs : IsSrc s) {x0 x2 x5 x6 x7 x8 x9 x10 x11 x12 x3 x4 : Option D} :
    ∃ (s' : D) (d : D) (y3 y4 : Option D), (dSeq (dAsg (tName 3) (dCall p__law_of (dCons (dVar 1) (dCons (dLst (dCons (dC (.int 1)) (dCons (dC (.int 2)) (dCons (dC (.int 2)) (dNil))))) (dNil)))))
    (dSeq (dAsg (tName 4) (dLc [16] (tName 16) (dIterL gRange1 (dCons (dVar 3) (dNil))) (dYes) (dCall p__law_of (dCons (dVar 1) (dCons (dLst (dCons (dTup (dCons (dC (.int 0)) (dCons (dC (.int 2)) (dNil)))) (dCons (dTup (dCons (dC (.int 0)) (dCons (dC (.int 3)) (dNil)))) (dCons (dTup (dCons (dC (.int 1)) (dCons (dC (.int 2)) (dNil)))) (dCons (dTup (dCons (dC (.int 2)) (dCons (dC (.int 1)) (dNil)))) (dCons (dTup (dCons (dC (.int 1)) (dCons (dC (.int 1)) (dNil)))) (dCons (dTup (dCons (dC (.int 0)) (dCons (dC (.int 4)) (dNil)))) (dCons (dTup (dCons (dC (.int 2)) (dCons (dC (.int 2)) (dNil)))) (dNil))))))))) (dNil))))))
    (dAsg (tName 5) (dCall p__law_grid (dCons (dVar 1) (dCons (dVar 3) (dCons (dVar 4) (dNil)))))))) [x0, some s, x2, x3, x4, x5, x6, x7, x8, x9, x10, x11, x12, none, none, none, none] =
      some (.nx [x0, some s', x2, y3, y4, some d, x6, x7, x8, x9, x10, x11, x12, none, none, none, none]) ∧ IsSrc s' ∧ Good d := by
  obtain ⟨y, s1, e1, hs1, hy⟩ := of_ok hs (xs := [.int 1, .int 2, .int 2]) (by simp) rfl (by simp)
  obtain ⟨k, rfl, hk1, hk2⟩ : ∃ k : Nat, y = dn k ∧ 0 < k ∧ k ≤ 2 := by
    simp at hy
    rcases hy with rfl | rfl
    · exact ⟨1, rfl, by omega, by omega⟩
    · exact ⟨2, rfl, by omega, by omega⟩
  have gr := range1_nat (n := k) (by omega)
  obtain ⟨ρ', acc, p', e2, s2, sz, rfl, hs2, rfl, hl, hsz⟩ := dLc_map (vs := [16]) (tg := tName 16) (tt := dYes) (fe := dCall p__law_of (dCons (dVar 1) (dCons (dLst (dCons (dTup (dCons (dC (.int 0)) (dCons (dC (.int 2)) (dNil)))) (dCons (dTup (dCons (dC (.int 0)) (dCons (dC (.int 3)) (dNil)))) (dCons (dTup (dCons (dC (.int 1)) (dCons (dC (.int 2)) (dNil)))) (dCons (dTup (dCons (dC (.int 2)) (dCons (dC (.int 1)) (dNil)))) (dCons (dTup (dCons (dC (.int 1)) (dCons (dC (.int 1)) (dNil)))) (dCons (dTup (dCons (dC (.int 0)) (dCons (dC (.int 4)) (dNil)))) (dCons (dTup (dCons (dC (.int 2)) (dCons (dC (.int 2)) (dNil)))) (dNil))))))))) (dNil))))
    (fi := dIterL gRange1 (dCons (dVar 3) (dNil))) (ρ := [x0, some s1, x2, some (dn k), x4, x5, x6, x7, x8, x9, x10, x11, x12, none, none, none, none]) (ρ1 := [x0, some s1, x2, some (dn k), x4, x5, x6, x7, x8, x9, x10, x11, x12, none, none, none, none]) (deps := []) (φ := dn) (l := List.range k) (p0 := true)
    (fun done ρ acc => ∃ (s' : D) (sz : List (Nat × Nat)), ρ = [x0, some s', x2, some (dn k), x4, x5, x6, x7, x8, x9, x10, x11, x12, none, none, none, none] ∧ IsSrc s' ∧ acc = sz.map szD ∧ sz.length = done.length ∧ ∀ s ∈ sz, s ∈ SZ)
    (by simp only [dn] at gr; simp [gr]) (by simp) (by simp) (fun _ _ _ _ => rfl) ⟨s1, [], rfl, hs1, rfl, rfl, by simp⟩ (by
      rintro a j b ρ acc hl ⟨s', sz, rfl, hs', rfl, hr, hle⟩
      obtain ⟨ha, hk, -⟩ := range_split hl
      obtain ⟨y, s2, e2, hs2, hy⟩ := of_ok hs' (xs := SZ.map szD) (by simp [SZ]) rfl (by simp [SZ])
      obtain ⟨z, hz, rfl⟩ := List.mem_map.mp hy
      have e2' : p__law_of [s', .lst [.tup [.int 0, .int 2], .tup [.int 0, .int 3], .tup [.int 1, .int 2], .tup [.int 2, .int 1], .tup [.int 1, .int 1], .tup [.int 0, .int 4], .tup [.int 2, .int 2]]] = some (.ok (szD z) [some s2, none]) := e2
      obtain ⟨c1, c2, c3, c4, rfl, -⟩ := hs'.ex
      obtain ⟨c5, c6, c7, c8, rfl, -⟩ := hs2.ex
      refine ⟨_, rfl, .inl ⟨_, true, .own (szD z), [x0, some (srcD c5 c6 c7 c8), x2, some (dn k), x4, x5, x6, x7, x8, x9, x10, x11, x12, none, none, none, some (dn j)], false, szD z, _, rfl, ?_, rfl, by rw [List.length_map, lim_eq]; omega, srcD c5 c6 c7 c8, sz ++ [z], rfl, hs2, by simp, by simp [hr], ?_⟩⟩
      · simp [e2', lim_eq]
      · intro x hx
        rcases List.mem_append.mp hx with h | h
        · exact hle x h
        · rw [List.mem_singleton.mp h]; exact hz)
  rw [List.length_range] at hl
  have hS : ∀ s ∈ SZ, 0 < s.2 ∧ s.1 + s.2 ≤ 4 := by decide
  obtain ⟨d, s3, e3, hs3, G⟩ := grid1 hs2 (sz := sz) (by omega) (by omega) (fun s h => (hS s (hsz s h)).1) (fun s h => (hS s (hsz s h)).2)
  rw [hl] at e3
  refine ⟨s3, d, some (dn k), some (.lst (sz.map szD)), ?_, hs3, G⟩
  obtain ⟨n, ins, F, f, g, rfl, -⟩ := G.ex
  have imd : (MD n (ins + 1) F).imm = true := MD_imm _ _ _
  generalize MD n (ins + 1) F = M at *
  obtain ⟨c1, c2, c3, c4, rfl, -⟩ := hs.ex
  obtain ⟨d1, d2, d3, d4, rfl, -⟩ := hs1.ex
  obtain ⟨b1, b2, b3, b4, rfl, -⟩ := hs2.ex
  obtain ⟨a1, a2, a3, a4, rfl, -⟩ := hs3.ex
  have e1' : p__law_of [srcD c1 c2 c3 c4, .lst [.int 1, .int 2, .int 2]] = some (.ok (dn k) [some (srcD d1 d2 d3 d4), none]) := e1
  generalize sz.map szD = szl at *
  refine seq_to (ρ1 := [x0, some (srcD d1 d2 d3 d4), x2, some (dn k), x4, x5, x6, x7, x8, x9, x10, x11, x12, none, none, none, none]) (by simp [e1', lim_eq]) ?_
  refine seq_to (ρ1 := [x0, some (srcD b1 b2 b3 b4), x2, some (dn k), some (.lst szl), x5, x6, x7, x8, x9, x10, x11, x12, none, none, none, none]) (by rw [ev_dAsg]; simp [e2]) ?_
  simp [e3]
theorem drawn_summed {s : D} (hs : IsSrc s) {x0 x2 x5 x6 x7 x8 x9 x10 x11 x12 x3 x4 : Option D} :
    ∃ (s' : D) (d : D) (y6 : Option D), (dSeq (dAsg (tName 6) (dOp gCat (dLst (dCons (dC (.int 1)) (dNil))) (dLc [16] (tName 16) (dIterL gRange1 (dCons (dCall p__law_pick (dCons (dVar 1) (dCons (dC (.int 3)) (dNil)))) (dNil))) (dYes) (dCall p__law_of (dCons (dVar 1) (dCons (dLst (dCons (dC (.int 1)) (dCons (dC (.int 2)) (dCons (dC (.int 3)) (dCons (dC (.int 4)) (dNil)))))) (dNil)))))))
    (dAsg (tName 5) (dCall p__law_summed (dCons (dVar 1) (dCons (dCall p__law_pick (dCons (dVar 1) (dCons (dC (.int 4)) (dNil)))) (dCons (dCall p__law_of (dCons (dVar 1) (dCons (dLst (dCons (dC (.int 1)) (dCons (dC (.int 2)) (dCons (dC (.int 3)) (dCons (dC (.int 4)) (dCons (dC (.int 6)) (dNil))))))) (dNil)))) (dCons (dVar 6) (dNil)))))))) [x0, some s, x2, x3, x4, x5, x6, x7, x8, x9, x10, x11, x12, none, none, none, none] =
      some (.nx [x0, some s', x2, x3, x4, some d, y6, x7, x8, x9, x10, x11, x12, none, none, none, none]) ∧ IsSrc s' ∧ Good d := by
  obtain ⟨r, s1, e1, hs1, h0, h1⟩ := pick_ok hs 3 (by decide)
  obtain ⟨k, rfl⟩ : ∃ k : Nat, r = (k : Int) := ⟨r.toNat, by omega⟩
  have hk : k < 3 := by omega
  have gr := range1_nat (n := k) (by omega)
  simp only [dn] at gr
  have e1' : p__law_pick [s, .int 3] = some (.ok (.int k) [some s1, none]) := e1
  have hfi : dIterL gRange1 (dCons (dCall p__law_pick (dCons (dVar 1) (dCons (dC (.int 3)) (dNil)))) (dNil)) [x0, some s, x2, x3, x4, x5, x6, x7, x8, x9, x10, x11, x12, none, none, none, none] = some (.ok ⟨(List.range k).map dn, [], false⟩ [x0, some s1, x2, x3, x4, x5, x6, x7, x8, x9, x10, x11, x12, none, none, none, none] false) := by
    obtain ⟨c1, c2, c3, c4, rfl, -⟩ := hs.ex
    obtain ⟨d1, d2, d3, d4, rfl, -⟩ := hs1.ex
    simp [e1', gr]
  obtain ⟨ρ', acc, p', e2, s2, sh, rfl, hs2, rfl, hl, hsh⟩ := dLc_map (vs := [16]) (tg := tName 16) (tt := dYes) (fe := dCall p__law_of (dCons (dVar 1) (dCons (dLst (dCons (dC (.int 1)) (dCons (dC (.int 2)) (dCons (dC (.int 3)) (dCons (dC (.int 4)) (dNil)))))) (dNil))))
    (fi := dIterL gRange1 (dCons (dCall p__law_pick (dCons (dVar 1) (dCons (dC (.int 3)) (dNil)))) (dNil))) (ρ := [x0, some s, x2, x3, x4, x5, x6, x7, x8, x9, x10, x11, x12, none, none, none, none]) (ρ1 := [x0, some s1, x2, x3, x4, x5, x6, x7, x8, x9, x10, x11, x12, none, none, none, none]) (deps := []) (φ := dn) (l := List.range k) (p0 := false)
    (fun done ρ acc => ∃ (s' : D) (sh : List Nat), ρ = [x0, some s', x2, x3, x4, x5, x6, x7, x8, x9, x10, x11, x12, none, none, none, none] ∧ IsSrc s' ∧ acc = sh.map dn ∧ sh.length = done.length ∧ ∀ s ∈ sh, s ≤ 4)
    hfi (by simp) (by simp) (fun _ _ _ _ => rfl) ⟨s1, [], rfl, hs1, rfl, rfl, by simp⟩ (by
      rintro a j b ρ acc hl ⟨s', sh, rfl, hs', rfl, hr, hle⟩
      obtain ⟨ha, hk, -⟩ := range_split hl
      obtain ⟨y, s2, e2, hs2, hy⟩ := of_ok hs' (xs := [.int 1, .int 2, .int 3, .int 4]) (by simp) rfl (by simp)
      obtain ⟨z, rfl, hz⟩ : ∃ z : Nat, y = dn z ∧ z ≤ 4 := by
        simp at hy
        rcases hy with rfl | rfl | rfl | rfl
        · exact ⟨1, rfl, by omega⟩
        · exact ⟨2, rfl, by omega⟩
        · exact ⟨3, rfl, by omega⟩
        · exact ⟨4, rfl, by omega⟩
      have e2' : p__law_of [s', .lst [.int 1, .int 2, .int 3, .int 4]] = some (.ok (dn z) [some s2, none]) := e2
      obtain ⟨c1, c2, c3, c4, rfl, -⟩ := hs'.ex
      obtain ⟨c5, c6, c7, c8, rfl, -⟩ := hs2.ex
      refine ⟨_, rfl, .inl ⟨_, true, .own (dn z), [x0, some (srcD c5 c6 c7 c8), x2, x3, x4, x5, x6, x7, x8, x9, x10, x11, x12, none, none, none, some (dn j)], false, dn z, _, rfl, ?_, rfl, by rw [List.length_map, lim_eq]; omega, srcD c5 c6 c7 c8, sh ++ [z], rfl, hs2, by simp, by simp [hr], ?_⟩⟩
      · simp [e2', lim_eq]
      · intro x hx
        rcases List.mem_append.mp hx with h | h
        · exact hle x h
        · rw [List.mem_singleton.mp h]; exact hz)
  rw [List.length_range] at hl
  obtain ⟨r2, s3, e3, hs3, h2, h3⟩ := pick_ok hs2 4 (by decide)
  obtain ⟨many, rfl⟩ : ∃ k : Nat, r2 = (k : Int) := ⟨r2.toNat, by omega⟩
  obtain ⟨y, s4, e4, hs4, hy⟩ := of_ok hs3 (xs := [.int 1, .int 2, .int 3, .int 4, .int 6]) (by simp) rfl (by simp)
  obtain ⟨back, rfl, hb1, hb2⟩ : ∃ k : Nat, y = dn k ∧ 0 < k ∧ k ≤ 6 := by
    simp at hy
    rcases hy with rfl | rfl | rfl | rfl | rfl
    · exact ⟨1, rfl, by omega, by omega⟩
    · exact ⟨2, rfl, by omega, by omega⟩
    · exact ⟨3, rfl, by omega, by omega⟩
    · exact ⟨4, rfl, by omega, by omega⟩
    · exact ⟨6, rfl, by omega, by omega⟩
  obtain ⟨d, s5, e5, hs5, G⟩ := summed1 hs4 (many := many) (back := back) hb1 (by omega) (sh := 1 :: sh) rfl (by simp; omega) (fun x hx => by
    rcases List.mem_cons.mp hx with h | h
    · omega
    · exact hsh x h)
  refine ⟨s5, d, some (.lst ((1 :: sh).map dn)), ?_, hs5, G⟩
  obtain ⟨n, ins, F, f, g, rfl, -⟩ := G.ex
  have imd : (MD n (ins + 1) F).imm = true := MD_imm _ _ _
  generalize MD n (ins + 1) F = M at *
  obtain ⟨c1, c2, c3, c4, rfl, -⟩ := hs.ex
  obtain ⟨b1, b2, b3, b4, rfl, -⟩ := hs2.ex
  obtain ⟨a1, a2, a3, a4, rfl, -⟩ := hs3.ex
  obtain ⟨f1, f2, f3, f4, rfl, -⟩ := hs4.ex
  obtain ⟨g1, g2, g3, g4, rfl, -⟩ := hs5.ex
  have e3' : p__law_pick [srcD b1 b2 b3 b4, .int 4] = some (.ok (.int many) [some (srcD a1 a2 a3 a4), none]) := e3
  have e4' : p__law_of [srcD a1 a2 a3 a4, .lst [.int 1, .int 2, .int 3, .int 4, .int 6]] = some (.ok (dn back) [some (srcD f1 f2 f3 f4), none]) := e4
  have ims : immL (sh.map dn) = true := immL_dn _
  have hsl : (sh.map dn).length ≤ 100 := by rw [List.length_map]; omega
  have esh : (1 :: sh).map dn = .int 1 :: sh.map dn := rfl
  rw [esh] at e5 ⊢
  generalize sh.map dn = shl at *
  have l1 : 1 + shl.length ≤ LIM := by rw [lim_eq]; omega
  have l2 : shl.length + 1 ≤ LIM := by rw [lim_eq]; omega
  refine seq_to (ρ1 := [x0, some (srcD b1 b2 b3 b4), x2, x3, x4, x5, some (.lst (.int 1 :: shl)), x7, x8, x9, x10, x11, x12, none, none, none, none]) (by rw [ev_dAsg]; simp [e2, ims, l1, l2, show 1 ≤ LIM by decide]) ?_
  simp [e3', e4', e5, show 5 ≤ LIM by decide]
/-! ### the whole -/
theorem law_true (c : PySem.Value) (ns : List Int) (hn : ns.length ≤ 63) : ∃ post, p_law c [.fls (ns.map .int)] = some (.ok (.bl true) post) := by
  obtain ⟨s0, e0, hs0⟩ := source_ok hn
  have him : immL (ns.map D.int) = true := by simp
  generalize ns.map D.int = nl at *
  obtain ⟨ρ', e1, s', y2, y3, y4, y5, y6, y7, y8, y9, y10, y11, y12, rfl, -⟩ := for_mapped (tg := tName 2) (g := dSeq (dIfS (dB (dOp gEq (dCall p__law_pick (dCons (dVar 1) (dCons (dC (.int 2)) (dNil)))) (dC (.int 0)))) (dSeq (dAsg (tName 3) (dCall p__law_of (dCons (dVar 1) (dCons (dLst (dCons (dC (.int 1)) (dCons (dC (.int 2)) (dCons (dC (.int 2)) (dNil))))) (dNil)))))
    (dSeq (dAsg (tName 4) (dLc [16] (tName 16) (dIterL gRange1 (dCons (dVar 3) (dNil))) (dYes) (dCall p__law_of (dCons (dVar 1) (dCons (dLst (dCons (dTup (dCons (dC (.int 0)) (dCons (dC (.int 2)) (dNil)))) (dCons (dTup (dCons (dC (.int 0)) (dCons (dC (.int 3)) (dNil)))) (dCons (dTup (dCons (dC (.int 1)) (dCons (dC (.int 2)) (dNil)))) (dCons (dTup (dCons (dC (.int 2)) (dCons (dC (.int 1)) (dNil)))) (dCons (dTup (dCons (dC (.int 1)) (dCons (dC (.int 1)) (dNil)))) (dCons (dTup (dCons (dC (.int 0)) (dCons (dC (.int 4)) (dNil)))) (dCons (dTup (dCons (dC (.int 2)) (dCons (dC (.int 2)) (dNil)))) (dNil))))))))) (dNil))))))
    (dAsg (tName 5) (dCall p__law_grid (dCons (dVar 1) (dCons (dVar 3) (dCons (dVar 4) (dNil)))))))) (dSeq (dAsg (tName 6) (dOp gCat (dLst (dCons (dC (.int 1)) (dNil))) (dLc [16] (tName 16) (dIterL gRange1 (dCons (dCall p__law_pick (dCons (dVar 1) (dCons (dC (.int 3)) (dNil)))) (dNil))) (dYes) (dCall p__law_of (dCons (dVar 1) (dCons (dLst (dCons (dC (.int 1)) (dCons (dC (.int 2)) (dCons (dC (.int 3)) (dCons (dC (.int 4)) (dNil)))))) (dNil)))))))
    (dAsg (tName 5) (dCall p__law_summed (dCons (dVar 1) (dCons (dCall p__law_pick (dCons (dVar 1) (dCons (dC (.int 4)) (dNil)))) (dCons (dCall p__law_of (dCons (dVar 1) (dCons (dLst (dCons (dC (.int 1)) (dCons (dC (.int 2)) (dCons (dC (.int 3)) (dCons (dC (.int 4)) (dCons (dC (.int 6)) (dNil))))))) (dNil)))) (dCons (dVar 6) (dNil))))))))) (ask c)) (deps := [])
    (ρ0 := [some (.fls nl), some s0, none, none, none, none, none, none, none, none, none, none, none, none, none, none, none]) (φ := dn) (l := List.range 3)
    (ρ := [some (.fls nl), some s0, none, none, none, none, none, none, none, none, none, none, none, none, none, none, none])
    (fun _ ρ => ∃ s y2 y3 y4 y5 y6 y7 y8 y9 y10 y11 y12, ρ = [some (.fls nl), some s, y2, y3, y4, y5, y6, y7, y8, y9, y10, y11, y12, none, none, none, none] ∧ IsSrc s) (fun _ _ _ => rfl) ⟨s0, none, none, none, none, none, none, none, none, none, none, none, rfl, hs0⟩ (by
      rintro a k b ρ hl ⟨s, y2, y3, y4, y5, y6, y7, y8, y9, y10, y11, y12, rfl, hs⟩
      obtain ⟨r, s1, e1, hs1, h0, h1⟩ := pick_ok hs 2 (by decide)
      obtain ⟨r, rfl⟩ : ∃ k : Nat, r = (k : Int) := ⟨r.toNat, by omega⟩
      have e1' : p__law_pick [s, .int 2] = some (.ok (.int r) [some s1, none]) := e1
      have ge := gEq_dn r 0
      have ge' : gEq (.int r) (.int 0) = some (.bl (decide (r = 0))) := ge
      obtain ⟨s2, d2, z3, z4, e2, hs2, G2⟩ := drawn_grid hs1 (x0 := some (.fls nl)) (x2 := some (dn k)) (x3 := y3) (x4 := y4) (x5 := y5) (x6 := y6) (x7 := y7) (x8 := y8) (x9 := y9) (x10 := y10) (x11 := y11) (x12 := y12)
      obtain ⟨s3, d3, z6, e3, hs3, G3⟩ := drawn_summed hs1 (x0 := some (.fls nl)) (x2 := some (dn k)) (x3 := y3) (x4 := y4) (x5 := y5) (x6 := y6) (x7 := y7) (x8 := y8) (x9 := y9) (x10 := y10) (x11 := y11) (x12 := y12)
      by_cases hr : r = 0
      · obtain ⟨w7, w8, w9, w10, w11, w12, ea⟩ := ask_ok (c := c) G2 (x0 := some (.fls nl)) (x1 := some s2) (x2 := some (dn k)) (x3 := z3) (x4 := z4) (x6 := y6) (x7 := y7) (x8 := y8) (x9 := y9) (x10 := y10) (x11 := y11) (x12 := y12)
        refine ⟨_, _, rfl, .inl (seq_to ?_ ea), s2, some (dn k), z3, z4, some d2, y6, w7, w8, w9, w10, w11, w12, rfl, hs2⟩
        rw [decide_eq_true hr] at ge'
        obtain ⟨c1, c2, c3, c4, rfl, -⟩ := hs.ex
        obtain ⟨c5, c6, c7, c8, rfl, -⟩ := hs1.ex
        rw [← e2, ev_dIfS]
        simp only [ev_bndB, ev_dB, ev_bnd, ev_dOp, ev_dCall, ev_bndL, ev_dCons, ev_dVar, ev_dC, ev_dNil]
        simp [e1', ge']
      · obtain ⟨w7, w8, w9, w10, w11, w12, ea⟩ := ask_ok (c := c) G3 (x0 := some (.fls nl)) (x1 := some s3) (x2 := some (dn k)) (x3 := y3) (x4 := y4) (x6 := z6) (x7 := y7) (x8 := y8) (x9 := y9) (x10 := y10) (x11 := y11) (x12 := y12)
        refine ⟨_, _, rfl, .inl (seq_to ?_ ea), s3, some (dn k), y3, y4, some d3, z6, w7, w8, w9, w10, w11, w12, rfl, hs3⟩
        rw [decide_eq_false hr] at ge'
        obtain ⟨c1, c2, c3, c4, rfl, -⟩ := hs.ex
        obtain ⟨c5, c6, c7, c8, rfl, -⟩ := hs1.ex
        rw [← e3, ev_dIfS]
        simp only [ev_bndB, ev_dB, ev_bnd, ev_dOp, ev_dCall, ev_bndL, ev_dCons, ev_dVar, ev_dC, ev_dNil]
        simp [e1', ge'])
  obtain ⟨a1, a2, a3, a4, a5⟩ := end_ok c
  obtain ⟨sE, u1, u2, u3⟩ := repr_ok (d := .lst [.tup [.int 0, .int 1], .tup [.int 0], .tup [.int 1], .tup [.int 1], .int 1]) (by decide +kernel) (by decide +kernel) (by decide +kernel)
  have gr := range1_nat (n := 3) (by omega)
  have gr' : gRange1 [.int 3] = some ((List.range 3).map dn) := gr
  refine ⟨_, (def_ret (d := .bl true) (ρ := [some (.fls nl), some s', y2, y3, y4, y5, y6, y7, y8, y9, y10, y11, y12, some halves, some first, some (.lst [.tup [.int 0, .int 1], .tup [.int 0], .tup [.int 1], .tup [.int 1], .int 1]), none]) rfl ?_)⟩
  refine seq_to (ρ1 := [some (.fls nl), some s0, none, none, none, none, none, none, none, none, none, none, none, none, none, none, none]) ?_ ?_
  · have e0' : p__law_source [.fls nl] = some (.ok s0 [none]) := e0
    simp [e0']
  refine seq_to (ρ1 := [some (.fls nl), some s', y2, y3, y4, y5, y6, y7, y8, y9, y10, y11, y12, none, none, none, none]) ?_ ?_
  · rw [ev_dFor]
    simp [gr']
    exact e1
  have ih : halves.imm = true := rfl
  have ifi : first.imm = true := rfl
  refine seq_to (ρ1 := [some (.fls nl), some s', y2, y3, y4, y5, y6, y7, y8, y9, y10, y11, y12, some halves, some first, none, none]) (by simp [halves, first, lim_eq]) ?_
  generalize halves = H at *
  generalize first = Fi at *
  refine seq_to (ρ1 := [some (.fls nl), some s', y2, y3, y4, y5, y6, y7, y8, y9, y10, y11, y12, some H, some Fi, some (.lst [.tup [.int 0, .int 1], .tup [.int 0], .tup [.int 1], .tup [.int 1], .int 1]), none]) (by simp [ih, ifi, a1, a2, a3, a4, a5, lim_eq]) ?_
  simp [u1, u2, lim_eq]
end
end L47
end
end
theorem PySem.Challenge.cw_anysequence_k47_modes_that_come_again_holds : PySem.Challenge.rw_anysequence_k47_modes_that_come_again.Holds := by
  exact L47.fin fun c ns hn _ => L47.law_true c ns hn
