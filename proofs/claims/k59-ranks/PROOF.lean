import PyProof.Rows.All
import Wide.All
import OpenK.AllK
import Wide.FinOn
import KE.KStateDown
import HandS.ForMost
import HandS.More
import HandS.WordsExc
import HandS.Defaults
import HandS.Walk
import HandS.TupAny
import HandS.Style
import HandS.Conv
import HandS.Zip
import HandS.SetFor
import HandS.Strs
import HandS.Flow
import HandS.RaiseMore
import HandS.IsInst
import HandS.Wide
import HandS.WideBits
import HandS.Star
import HandS.TupLe
import HandS.SortInts
import HandS.Deep
import HandS.TupMul
import KE.GoesNew
import HandS.Words
import HandS.Ends
import HandS.HeadEnd
import HandS.Dict
import KE.DataMinMax
import KE.KDictZip
import KE.GoesZip
import HandS.SortOrd
import HandS.Head0
import HandS.Head1
import HandS.Head2
import HandS.HeadHook1
import HandS.HeadHook2
import PySem.Challenge.RW_whotaughtwhom_k59_whole_ranks_of_heirs_g
set_option Elab.async false
set_option linter.all false
set_option maxRecDepth 100000
set_option maxHeartbeats 4000000
set_option autoImplicit false
section
/-! Dn0: values as trees (D), how they stand in the abstract heap (Rep), slots (RepE), what a step may change (Frm, News). -/
namespace Dn
open PySem PySem.Spec PyProof.Rows L2

/-- a value as a tree; lists, dicts, sets are owned by who has them -/
inductive D where
  | non | bl (b : Bool) | int (i : Int) | str (x : Str)
  | tup (xs : List D) | lst (xs : List D)
  | dcK (ks : List (Key × D)) | dcT (ks : List (List Key × D))
  | frz (xs : List D)
  deriving Inhabited

mutual
/-- nothing in it can be changed -/
def D.imm : D → Bool
  | .non => true
  | .bl _ => true
  | .int _ => true
  | .str _ => true
  | .tup xs => D.imms xs
  | .lst _ => false
  | .dcK _ => false
  | .dcT _ => false
  | .frz _ => true
def D.imms : List D → Bool
  | [] => true
  | x :: r => x.imm && D.imms r
end

/-- sets of addresses -/
abbrev AS := Addr → Prop
def no : AS := fun _ => False
def Sub (S T : AS) : Prop := ∀ a, S a → T a
def Disj (S T : AS) : Prop := ∀ a, S a → T a → False
def un (S T : AS) : AS := fun a => S a ∨ T a
theorem Sub.refl {S : AS} : Sub S S := fun _ h => h
theorem no_sub {S : AS} : Sub no S := fun _ h => h.elim
theorem Disj.no_l {S : AS} : Disj no S := fun _ h _ => h
theorem Disj.no_r {S : AS} : Disj S no := fun _ _ h => h
theorem Disj.symm {S T : AS} (h : Disj S T) : Disj T S := fun a x y => h a y x
theorem Disj.mono {S T S' T' : AS} (h : Disj S T) (a : Sub S' S) (b : Sub T' T) : Disj S' T' := fun x p q => h x (a x p) (b x q)

/-- a list that is never changed: the script -/
def SqF (K : PySem.W.Frag) (H : Hp) (a : Addr) (xs : List V) : Prop := (∃ o, H a = some (.frz o (.lst xs))) ∨
  ∃ (o : Obj) (its : Array Value) (n : Nat), K.lookup a = some o ∧ o.cls = .type "list" ∧ o.dict = none ∧ o.data = .seq its n ∧ its.size ≤ sizeLine ∧ Vals xs its.toList
theorem SqF.seq {K : PySem.W.Frag} {H : Hp} {a : Addr} {xs : List V} (h : SqF K H a xs) : SqL K H a xs := by
  rcases h with ⟨o, h⟩ | h
  · exact .inl (.inr ⟨o, h⟩)
  · exact .inr h
theorem SqF.of {K : PySem.W.Frag} {H : Hp} {a : Addr} {xs : List V} (h : SqL K H a xs) (o : Only H) : SqF K H a xs := by
  rcases h with (h | ⟨o', h⟩) | h
  · rcases o a with z | ⟨o', xs', z⟩
    · rw [z] at h; cases h
    · rw [z] at h; cases h
  · exact .inl ⟨o', h⟩
  · exact .inr h

/-- a tuple that has no dict of its own: its methods are its type's -/
def tupO (us : List Value) : Obj := { cls := .type "tuple", data := .seq us.toArray }
def SqB (K : PySem.W.Frag) (H : Hp) (a : Addr) (xs : List V) : Prop := (∃ us, H a = some (.frz (tupO us) (.tup xs))) ∨
  ∃ (o : Obj) (its : Array Value) (n : Nat), K.lookup a = some o ∧ o.cls = .type "tuple" ∧ o.dict = none ∧ o.data = .seq its n ∧ its.size ≤ sizeLine ∧ Vals xs its.toList
theorem SqB.seq {K : PySem.W.Frag} {H : Hp} {a : Addr} {xs : List V} (h : SqB K H a xs) : SqT K H a xs := by
  rcases h with ⟨us, h⟩ | ⟨o, its, n, h1, h2, _, h3⟩
  · exact .inl (.inr ⟨_, h⟩)
  · exact .inr ⟨o, its, n, h1, h2, h3⟩

section
variable (K : PySem.W.Frag) (H : Hp)
mutual
/-- d is what v is; T has the addresses of what of it can be changed -/
def Rep : D → V → AS → Prop
  | .non, v, _ => v = .non
  | .bl b, v, _ => v = .bl b
  | .int i, v, _ => v = .int i
  | .str x, v, _ => v = .str x
  | .tup ds, v, T => ∃ a xs, v = .ref a ∧ SqB K H a xs ∧ RepL ds xs T
  | .lst ds, v, T => ∃ a xs T0, v = .ref a ∧ H a = some (.lst xs) ∧ T a ∧ ¬ T0 a ∧ Sub T0 T ∧ RepL ds xs T0
  | .dcK ks, v, T => ∃ a xs T0, v = .ref a ∧ H a = some (.dK xs) ∧ T a ∧ ¬ T0 a ∧ Sub T0 T ∧ RepK ks xs T0
  | .dcT ks, v, T => ∃ a xs T0, v = .ref a ∧ H a = some (.dT xs) ∧ T a ∧ ¬ T0 a ∧ Sub T0 T ∧ RepT ks xs T0
  | .frz ds, v, _ => ∃ a xs, v = .ref a ∧ SqF K H a xs ∧ RepL ds xs no
def RepL : List D → List V → AS → Prop
  | [], xs, _ => xs = []
  | d :: ds, xs, T => ∃ v vs T1 T2, xs = v :: vs ∧ Rep d v T1 ∧ RepL ds vs T2 ∧ Sub T1 T ∧ Sub T2 T ∧ Disj T1 T2
def RepK : List (Key × D) → List (Key × V) → AS → Prop
  | [], xs, _ => xs = []
  | (k, d) :: ds, xs, T => ∃ v vs T1 T2, xs = (k, v) :: vs ∧ Rep d v T1 ∧ RepK ds vs T2 ∧ Sub T1 T ∧ Sub T2 T ∧ Disj T1 T2
def RepT : List (List Key × D) → List (List Key × V) → AS → Prop
  | [], xs, _ => xs = []
  | (k, d) :: ds, xs, T => ∃ v vs T1 T2, xs = (k, v) :: vs ∧ Rep d v T1 ∧ RepT ds vs T2 ∧ Sub T1 T ∧ Sub T2 T ∧ Disj T1 T2
end
end

/-- what can be changed -/
def mutO : HO → Bool
  | .lst _ => true
  | .dK _ => true
  | .dT _ => true
  | _ => false
def Mu (H : Hp) (S : AS) : Prop := ∀ a, S a → ∃ o, H a = some o ∧ mutO o = true
/-- outside of S all that was tracked is as it was -/
def Frm (S : AS) (H H' : Hp) : Prop := ∀ a o, H a = some o → ¬ S a → H' a = some o
/-- T has what S has, and what is new behind H -/
def News (S : AS) (H : Hp) (T : AS) : Prop := ∀ a, T a → S a ∨ H a = none

theorem Mu.nil {H : Hp} : Mu H no := fun _ h => h.elim
theorem Mu.sub {H : Hp} {S T : AS} (m : Mu H T) (s : Sub S T) : Mu H S := fun a h => m a (s a h)
theorem Mu.un {H : Hp} {S T : AS} (m : Mu H S) (n : Mu H T) : Mu H (un S T) := fun a h => h.elim (m a) (n a)
theorem Frm.refl {S : AS} {H : Hp} : Frm S H H := fun _ _ h _ => h
theorem Frm.mono {S T : AS} {H H' : Hp} (f : Frm S H H') (s : Sub S T) : Frm T H H' := fun a o h n => f a o h fun q => n (s a q)
theorem Frm.trans {S S1 : AS} {H H1 H2 : Hp} (f : Frm S H H1) (n : News S H S1) (g : Frm S1 H1 H2) : Frm S H H2 := fun a o h ns =>
  g a o (f a o h ns) fun q => (n a q).elim ns fun z => by rw [h] at z; cases z
theorem News.refl {S : AS} {H : Hp} : News S H S := fun _ h => .inl h
theorem News.nil {S : AS} {H : Hp} : News S H no := fun _ h => h.elim
theorem News.sub {S T T' : AS} {H : Hp} (n : News S H T) (s : Sub T' T) : News S H T' := fun a h => n a (s a h)
theorem News.trans {S S1 T : AS} {H H1 : Hp} (n : News S H S1) (f : Frm S H H1) (m : News S1 H1 T) : News S H T := fun a h => by
  rcases m a h with q | q
  · exact n a q
  · rcases Classical.em (S a) with z | z
    · exact .inl z
    · refine .inr ?_
      cases e : H a with
      | none => rfl
      | some o => rw [f a o e z] at q; cases q
theorem News.un {S T T' : AS} {H : Hp} (n : News S H T) (m : News S H T') : News S H (un T T') := fun a h => h.elim (n a) (m a)
/-- what lies apart from S and is tracked lies apart from what comes -/
theorem News.disj {S T U : AS} {H : Hp} (n : News S H T) (d : Disj U S) (m : Mu H U) : Disj U T := fun a u t => by
  rcases n a t with q | q
  · exact d a u q
  · obtain ⟨o, e, _⟩ := m a u
    rw [e] at q; cases q

section
variable {K : PySem.W.Frag} {H H' : Hp}
theorem SqB.frm {a : Addr} {xs : List V} {S : AS} (h : SqB K H a xs) (f : Frm S H H') (m : Mu H S) : SqB K H' a xs := by
  rcases h with ⟨us, h⟩ | h
  · refine .inl ⟨us, f a _ h fun q => ?_⟩
    obtain ⟨o, e, z⟩ := m a q
    rw [h] at e; cases e; cases z
  · exact .inr h
theorem SqF.frm {a : Addr} {xs : List V} {S : AS} (h : SqF K H a xs) (f : Frm S H H') (m : Mu H S) : SqF K H' a xs := by
  rcases h with ⟨o, h⟩ | h
  · refine .inl ⟨o, f a _ h fun q => ?_⟩
    obtain ⟨o, e, z⟩ := m a q
    rw [h] at e; cases e; cases z
  · exact .inr h
theorem SqL.frm' {a : Addr} {xs : List V} {S : AS} (h : SqL K H a xs) (f : Frm S H H') (n : ¬ S a) : SqL K H' a xs := by
  rcases h with (h | ⟨o, h⟩) | h
  · exact .inl (.inl (f a _ h n))
  · exact .inl (.inr ⟨o, f a _ h n⟩)
  · exact .inr h
mutual
theorem Rep.sub : ∀ {d : D} {v : V} {T T' : AS}, Rep K H d v T → Sub T T' → Rep K H d v T'
  | .non, _, _, _, h, _ => h
  | .bl _, _, _, _, h, _ => h
  | .int _, _, _, _, h, _ => h
  | .str _, _, _, _, h, _ => h
  | .tup ds, _, _, _, h, s => by
    obtain ⟨a, xs, e, q, r⟩ := h
    exact ⟨a, xs, e, q, RepL.sub r s⟩
  | .lst ds, _, _, _, h, s => by
    obtain ⟨a, xs, T0, e, q, t, n, u, r⟩ := h
    exact ⟨a, xs, T0, e, q, s _ t, n, fun b z => s b (u b z), r⟩
  | .dcK ds, _, _, _, h, s => by
    obtain ⟨a, xs, T0, e, q, t, n, u, r⟩ := h
    exact ⟨a, xs, T0, e, q, s _ t, n, fun b z => s b (u b z), r⟩
  | .dcT ds, _, _, _, h, s => by
    obtain ⟨a, xs, T0, e, q, t, n, u, r⟩ := h
    exact ⟨a, xs, T0, e, q, s _ t, n, fun b z => s b (u b z), r⟩
  | .frz _, _, _, _, h, _ => h
theorem RepL.sub : ∀ {ds : List D} {xs : List V} {T T' : AS}, RepL K H ds xs T → Sub T T' → RepL K H ds xs T'
  | [], _, _, _, h, _ => h
  | d :: ds, _, _, _, h, s => by
    obtain ⟨v, vs, T1, T2, e, r1, r2, s1, s2, dj⟩ := h
    exact ⟨v, vs, T1, T2, e, r1, r2, fun a z => s a (s1 a z), fun a z => s a (s2 a z), dj⟩
end
theorem RepK.sub : ∀ {ds : List (Key × D)} {xs : List (Key × V)} {T T' : AS}, RepK K H ds xs T → Sub T T' → RepK K H ds xs T'
  | [], _, _, _, h, _ => h
  | (k, d) :: ds, _, _, _, h, s => by
    obtain ⟨v, vs, T1, T2, e, r1, r2, s1, s2, dj⟩ := h
    exact ⟨v, vs, T1, T2, e, r1, r2, fun a z => s a (s1 a z), fun a z => s a (s2 a z), dj⟩
theorem RepT.sub : ∀ {ds : List (List Key × D)} {xs : List (List Key × V)} {T T' : AS}, RepT K H ds xs T → Sub T T' → RepT K H ds xs T'
  | [], _, _, _, h, _ => h
  | (k, d) :: ds, _, _, _, h, s => by
    obtain ⟨v, vs, T1, T2, e, r1, r2, s1, s2, dj⟩ := h
    exact ⟨v, vs, T1, T2, e, r1, r2, fun a z => s a (s1 a z), fun a z => s a (s2 a z), dj⟩
mutual
/-- what cannot be changed has no such addresses -/
theorem Rep.imm : ∀ {d : D} {v : V} {T : AS}, Rep K H d v T → d.imm = true → Rep K H d v no
  | .non, _, _, h, _ => h
  | .bl _, _, _, h, _ => h
  | .int _, _, _, h, _ => h
  | .str _, _, _, h, _ => h
  | .tup ds, _, _, h, i => by
    obtain ⟨a, xs, e, q, r⟩ := h
    exact ⟨a, xs, e, q, RepL.imm r (by simpa [D.imm] using i)⟩
  | .frz ds, _, _, h, _ => h
  | .lst ds, _, _, _, i => by simp [D.imm] at i
  | .dcK ds, _, _, _, i => by simp [D.imm] at i
  | .dcT ds, _, _, _, i => by simp [D.imm] at i
theorem RepL.imm : ∀ {ds : List D} {xs : List V} {T : AS}, RepL K H ds xs T → D.imms ds = true → RepL K H ds xs no
  | [], _, _, h, _ => h
  | d :: ds, _, _, h, i => by
    obtain ⟨v, vs, T1, T2, e, r1, r2, s1, s2, dj⟩ := h
    simp only [D.imms, Bool.and_eq_true] at i
    exact ⟨v, vs, no, no, e, Rep.imm r1 i.1, RepL.imm r2 i.2, no_sub, no_sub, Disj.no_l⟩
end
mutual
/-- what is told stays so where S alone is changed -/
theorem Rep.frm : ∀ {d : D} {v : V} {T S : AS}, Rep K H d v T → Frm S H H' → Mu H S → Disj T S → Rep K H' d v T
  | .non, _, _, _, h, _, _, _ => h
  | .bl _, _, _, _, h, _, _, _ => h
  | .int _, _, _, _, h, _, _, _ => h
  | .str _, _, _, _, h, _, _, _ => h
  | .tup ds, _, _, _, h, f, m, dj => by
    obtain ⟨a, xs, e, q, r⟩ := h
    exact ⟨a, xs, e, SqB.frm q f m, RepL.frm r f m dj⟩
  | .lst ds, _, _, _, h, f, m, dj => by
    obtain ⟨a, xs, T0, e, q, t, n, u, r⟩ := h
    exact ⟨a, xs, T0, e, f a _ q fun z => dj a t z, t, n, u, RepL.frm r f m (dj.mono u Sub.refl)⟩
  | .dcK ds, _, _, _, h, f, m, dj => by
    obtain ⟨a, xs, T0, e, q, t, n, u, r⟩ := h
    exact ⟨a, xs, T0, e, f a _ q fun z => dj a t z, t, n, u, RepK.frm r f m (dj.mono u Sub.refl)⟩
  | .dcT ds, _, _, _, h, f, m, dj => by
    obtain ⟨a, xs, T0, e, q, t, n, u, r⟩ := h
    exact ⟨a, xs, T0, e, f a _ q fun z => dj a t z, t, n, u, RepT.frm r f m (dj.mono u Sub.refl)⟩
  | .frz ds, _, _, _, h, f, m, dj => by
    obtain ⟨a, xs, e, q, r⟩ := h
    exact ⟨a, xs, e, SqF.frm q f m, RepL.frm r f m Disj.no_l⟩
theorem RepL.frm : ∀ {ds : List D} {xs : List V} {T S : AS}, RepL K H ds xs T → Frm S H H' → Mu H S → Disj T S → RepL K H' ds xs T
  | [], _, _, _, h, _, _, _ => h
  | d :: ds, _, _, _, h, f, m, dj => by
    obtain ⟨v, vs, T1, T2, e, r1, r2, s1, s2, dd⟩ := h
    exact ⟨v, vs, T1, T2, e, Rep.frm r1 f m (dj.mono s1 Sub.refl), RepL.frm r2 f m (dj.mono s2 Sub.refl), s1, s2, dd⟩
theorem RepK.frm : ∀ {ds : List (Key × D)} {xs : List (Key × V)} {T S : AS}, RepK K H ds xs T → Frm S H H' → Mu H S → Disj T S → RepK K H' ds xs T
  | [], _, _, _, h, _, _, _ => h
  | (k, d) :: ds, _, _, _, h, f, m, dj => by
    obtain ⟨v, vs, T1, T2, e, r1, r2, s1, s2, dd⟩ := h
    exact ⟨v, vs, T1, T2, e, Rep.frm r1 f m (dj.mono s1 Sub.refl), RepK.frm r2 f m (dj.mono s2 Sub.refl), s1, s2, dd⟩
theorem RepT.frm : ∀ {ds : List (List Key × D)} {xs : List (List Key × V)} {T S : AS}, RepT K H ds xs T → Frm S H H' → Mu H S → Disj T S → RepT K H' ds xs T
  | [], _, _, _, h, _, _, _ => h
  | (k, d) :: ds, _, _, _, h, f, m, dj => by
    obtain ⟨v, vs, T1, T2, e, r1, r2, s1, s2, dd⟩ := h
    exact ⟨v, vs, T1, T2, e, Rep.frm r1 f m (dj.mono s1 Sub.refl), RepT.frm r2 f m (dj.mono s2 Sub.refl), s1, s2, dd⟩
end
end
end Dn
end
section
/-! Dn1: slots as trees, the judgements over HandS's (DE an expression, DO an operand, DOs arguments, DT a test, DS a statement). -/
namespace Dn
open PySem PySem.Spec L2

abbrev Env := List (Option D)
abbrev EX := Env → Option (D × Env)
/-- an operand: a value, or a slot that is read when all operands are there -/
inductive Tk where
  | own (d : D) | slot (i : Nat)
abbrev OX := Env → Option (Tk × Env)
abbrev OXs := Env → Option (List Tk × Env)
abbrev BX := Env → Option (Bool × Env)
inductive Fl where
  | nx | bk | ct | rt (d : D)
abbrev SX := Env → Option (Fl × Env)

def tot (S : Nat → AS) : AS := fun a => ∃ i, S i a
theorem sub_tot {S : Nat → AS} {i : Nat} : Sub (S i) (tot S) := fun a h => ⟨i, h⟩
theorem tot_sub {S : Nat → AS} {T : AS} (h : ∀ i, Sub (S i) T) : Sub (tot S) T := fun a ⟨i, z⟩ => h i a z

structure RepE (K : PySem.W.Frag) (H : Hp) (E : Env) (σ : L2.St) (S : Nat → AS) : Prop where
  len : E.length = σ.length
  at_ : ∀ (i : Nat) (d : D), E[i]? = some (some d) → ∃ v, σ[i]? = some (some v) ∧ Rep K H d v (S i)
  dj : ∀ i j, i ≠ j → Disj (S i) (S j)
  mu : Mu H (tot S)

section
variable {K : PySem.W.Frag} {H H' : Hp} {E : Env} {σ : L2.St} {S : Nat → AS}
theorem RepE.mui (r : RepE K H E σ S) (i : Nat) : Mu H (S i) := r.mu.sub sub_tot
/-- slots stay where only what lies apart is changed -/
theorem RepE.frm {U : AS} (r : RepE K H E σ S) (f : Frm U H H') (m : Mu H U) (d : Disj (tot S) U) : RepE K H' E σ S :=
  ⟨r.len, fun i x e => by
    obtain ⟨v, h1, h2⟩ := r.at_ i x e
    exact ⟨v, h1, h2.frm f m (d.mono sub_tot Sub.refl)⟩, r.dj, fun a ha => by
      obtain ⟨o, e, z⟩ := r.mu a ha
      exact ⟨o, f a o e fun q => d a ha q, z⟩⟩
theorem Same.frm {S : AS} (s : Same H H') : Frm S H H' := fun a o h _ => s a o h
theorem RepE.same (r : RepE K H E σ S) (s : Same H H') : RepE K H' E σ S := r.frm (U := no) (Same.frm s) Mu.nil Disj.no_r
theorem Rep.same {d : D} {v : V} {T : AS} (r : Rep K H d v T) (s : Same H H') : Rep K H' d v T := r.frm (S := no) (Same.frm s) Mu.nil Disj.no_r
theorem Mu.frm {U T : AS} (m : Mu H T) (f : Frm U H H') (d : Disj T U) : Mu H' T := fun a h => by
  obtain ⟨o, e, z⟩ := m a h
  exact ⟨o, f a o e fun q => d a h q, z⟩
theorem Mu.same {T : AS} (m : Mu H T) (s : Same H H') : Mu H' T := m.frm (U := no) (Same.frm s) Disj.no_r
/-- another value at a slot -/
theorem RepE.set {i : Nat} {d : D} {v : V} {T : AS} (r : RepE K H E σ S) (h : Rep K H d v T) (dj : Disj T (tot S)) (m : Mu H T) :
    RepE K H (E.set i (some d)) (σ.set i (some v)) (fun j => if j = i then T else S j) where
  len := by rw [List.length_set, List.length_set]; exact r.len
  at_ := fun j x e => by
    by_cases hj : j = i
    · subst hj
      rw [if_pos rfl]
      have hl : j < E.length := by
        have := (List.getElem?_eq_some_iff.mp e).1
        rwa [List.length_set] at this
      rw [List.getElem?_set_self hl] at e
      cases e
      exact ⟨v, List.getElem?_set_self (by rw [← r.len]; exact hl), h⟩
    · rw [if_neg hj]
      rw [List.getElem?_set_ne (Ne.symm hj)] at e
      obtain ⟨u, h1, h2⟩ := r.at_ j x e
      exact ⟨u, by rw [List.getElem?_set_ne (Ne.symm hj)]; exact h1, h2⟩
  dj := fun j k ne => by
    by_cases hj : j = i
    · subst hj
      rw [if_pos rfl, if_neg (Ne.symm ne)]
      exact dj.mono Sub.refl sub_tot
    · rw [if_neg hj]
      by_cases hk : k = i
      · subst hk
        rw [if_pos rfl]
        exact (dj.mono Sub.refl sub_tot).symm
      · rw [if_neg hk]
        exact r.dj j k ne
  mu := fun a ⟨j, ha⟩ => by
    have ha : (if j = i then T else S j) a := ha
    by_cases hj : j = i
    · subst hj
      rw [if_pos rfl] at ha
      exact m a ha
    · rw [if_neg hj] at ha
      exact r.mu a ⟨j, ha⟩
theorem tot_set {i : Nat} {T : AS} : Sub (tot (fun j => if j = i then T else S j)) (un T (tot S)) := fun a ⟨j, h⟩ => by
  have h : (if j = i then T else S j) a := h
  by_cases hj : j = i
  · subst hj
    rw [if_pos rfl] at h
    exact .inl h
  · rw [if_neg hj] at h
    exact .inr ⟨j, h⟩
/-- a slot forgotten -/
theorem RepE.drop {i : Nat} (r : RepE K H E σ S) : RepE K H (E.set i none) σ (fun j => if j = i then no else S j) where
  len := by rw [List.length_set]; exact r.len
  at_ := fun j x e => by
    by_cases hj : j = i
    · subst hj
      have hl : j < E.length := by
        have := (List.getElem?_eq_some_iff.mp e).1
        rwa [List.length_set] at this
      rw [List.getElem?_set_self hl] at e
      cases e
    · rw [if_neg hj]
      rw [List.getElem?_set_ne (Ne.symm hj)] at e
      exact r.at_ j x e
  dj := fun j k ne => by
    by_cases hj : j = i
    · subst hj
      rw [if_pos rfl]
      exact Disj.no_l
    · rw [if_neg hj]
      by_cases hk : k = i
      · subst hk
        rw [if_pos rfl]
        exact Disj.no_r
      · rw [if_neg hk]
        exact r.dj j k ne
  mu := fun a ⟨j, ha⟩ => by
    have ha : (if j = i then no else S j) a := ha
    by_cases hj : j = i
    · subst hj
      rw [if_pos rfl] at ha
      exact ha.elim
    · rw [if_neg hj] at ha
      exact r.mu a ⟨j, ha⟩
theorem tot_drop {i : Nat} : Sub (tot (fun j => if j = i then no else S j)) (tot S) := fun a ⟨j, h⟩ => by
  have h : (if j = i then no else S j) a := h
  by_cases hj : j = i
  · subst hj
    rw [if_pos rfl] at h
    exact h.elim
  · rw [if_neg hj] at h
    exact ⟨j, h⟩
theorem drop_disj {i : Nat} (r : RepE K H E σ S) : Disj (S i) (tot (fun j => if j = i then no else S j)) := fun a h ⟨j, z⟩ => by
  have z : (if j = i then no else S j) a := z
  by_cases hj : j = i
  · rw [if_pos hj] at z
    exact z
  · rw [if_neg hj] at z
    exact r.dj i j (Ne.symm hj) a h z
/-- fewer slots known -/
theorem RepE.forget {E' : Env} (r : RepE K H E σ S) (hl : E'.length = E.length) (h : ∀ (i : Nat) (d : D), E'[i]? = some (some d) → E[i]? = some (some d)) : RepE K H E' σ S :=
  ⟨hl.trans r.len, fun i d e => r.at_ i d (h i d e), r.dj, r.mu⟩
end

/-! ### a step: from (S, H) to (E', S', H') -/
structure Stp (K : PySem.W.Frag) (σ : L2.St) (S : AS) (H : Hp) (E' : Env) (S' : Nat → AS) (H' : Hp) : Prop where
  env : RepE K H' E' σ S'
  frm : Frm S H H'
  new : News S H (tot S')
/-- T belongs to nobody else -/
structure Ow (S : AS) (H : Hp) (S' : Nat → AS) (H' : Hp) (T : AS) : Prop where
  dj : Disj T (tot S')
  mu : Mu H' T
  new : News S H T
section
variable {K : PySem.W.Frag} {H H1 H2 H' : Hp} {E E1 E2 : Env} {σ : L2.St} {S : AS} {S0 S1 S2 : Nat → AS} {T U : AS}
theorem Stp.refl (r : RepE K H E σ S0) : Stp K σ (tot S0) H E S0 H := ⟨r, Frm.refl, News.refl⟩
theorem Stp.trans (a : Stp K σ S H E1 S1 H1) (b : Stp K σ (tot S1) H1 E2 S2 H2) : Stp K σ S H E2 S2 H2 := ⟨b.env, a.frm.trans a.new b.frm, a.new.trans a.frm b.new⟩
theorem Frm.same (f : Frm S H H1) (s : Same H1 H2) : Frm S H H2 := fun a o h n => s a o (f a o h n)
theorem Stp.same (a : Stp K σ S H E1 S1 H1) (s : Same H1 H2) : Stp K σ S H E1 S1 H2 := ⟨a.env.same s, a.frm.same s, a.new⟩
theorem Ow.no : Ow S H S1 H1 no := ⟨Disj.no_l, Mu.nil, News.nil⟩
theorem Frm.fresh (f : Frm S H H1) (h : ∀ a, T a → H1 a = none) : News S H T := fun a t => by
  rcases Classical.em (S a) with z | z
  · exact .inl z
  · refine .inr ?_
    cases e : H a with
    | none => rfl
    | some o =>
      have q := f a o e z
      rw [h a t] at q
      exact nomatch q
/-- what is made anew behind a step -/
theorem Stp.fresh (a : Stp K σ S H E1 S1 H1) (h : ∀ a, T a → H1 a = none) (m : Mu H2 T) : Ow S H S1 H2 T :=
  ⟨fun b t z => (by
    obtain ⟨o, e, _⟩ := a.env.mu b z
    rw [h b t] at e; cases e), m, a.frm.fresh h⟩
/-- what belongs to nobody else stays so through a step -/
theorem Ow.step (o : Ow S H S1 H1 T) (a : Stp K σ (tot S1) H1 E2 S2 H2) (mu : Mu H1 (tot S1)) : Ow S H S2 H2 T :=
  ⟨a.new.disj o.dj o.mu, o.mu.frm a.frm o.dj, o.new⟩
theorem Ow.same (o : Ow S H S1 H1 T) (s : Same H1 H2) : Ow S H S1 H2 T := ⟨o.dj, o.mu.same s, o.new⟩
theorem Ow.sub (o : Ow S H S1 H1 T) (s : Sub U T) : Ow S H S1 H1 U := ⟨o.dj.mono s Sub.refl, o.mu.sub s, o.new.sub s⟩
theorem Ow.un (o : Ow S H S1 H1 T) (q : Ow S H S1 H1 U) : Ow S H S1 H1 (un T U) := ⟨fun a h z => h.elim (fun h => o.dj a h z) (fun h => q.dj a h z), o.mu.un q.mu, o.new.un q.new⟩
theorem Ow.pre (o : Ow (tot S0) H1 S1 H2 T) (a : Stp K σ S H E1 S0 H1) : Ow S H S1 H2 T := ⟨o.dj, o.mu, a.new.trans a.frm o.new⟩
end

/-! ### the judgements -/
section
variable (K : PySem.W.Frag)
/-- what an expression promises: p: nothing that was tracked is changed -/
def tD (p : Bool) (ρ : EX) : TE := fun σ H Q => ∃ E S d E', RepE K H E σ S ∧ ρ E = some (d, E') ∧
  ∀ v H' S' T, Stp K σ (tot S) H E' S' H' → Rep K H' d v T → Ow (tot S) H S' H' T → (p = true → Same H H') → Q v H'
def TkOk (H : Hp) (σ : L2.St) (tk : Tk) (v : V) (T : AS) : Prop := match tk with
  | .own d => Rep K H d v T
  | .slot i => σ[i]? = some (some v)
def tO (p : Bool) (ρ : OX) : TE := fun σ H Q => ∃ E S tk E', RepE K H E σ S ∧ ρ E = some (tk, E') ∧
  ∀ v H' S' T, Stp K σ (tot S) H E' S' H' → TkOk K H' σ tk v T → Ow (tot S) H S' H' T → (p = true → Same H H') → Q v H'
def TksOk (H : Hp) (σ : L2.St) : List Tk → List V → AS → Prop
  | [], vs, _ => vs = []
  | t :: ts, vs, T => ∃ v r T1 T2, vs = v :: r ∧ TkOk K H σ t v T1 ∧ TksOk H σ ts r T2 ∧ Sub T1 T ∧ Sub T2 T ∧ Disj T1 T2
def tOs (p : Bool) (ρ : OXs) : TA := fun σ H Q => ∃ E S tks E', RepE K H E σ S ∧ ρ E = some (tks, E') ∧
  ∀ vs H' S' T, Stp K σ (tot S) H E' S' H' → TksOk K H' σ tks vs T → Ow (tot S) H S' H' T → (p = true → Same H H') → Q vs H'
def tT (p : Bool) (ρ : BX) : TT := fun σ H Q => ∃ E S b E', RepE K H E σ S ∧ ρ E = some (b, E') ∧
  ∀ H' S', Stp K σ (tot S) H E' S' H' → (p = true → Same H H') → Q b H'
/-- the slots of pin hold what they held -/
structure PinEq (pin : Nat → Bool) (σ σ' : L2.St) : Prop where
  len : σ'.length = σ.length
  eq : ∀ i : Nat, pin i = true → σ'[i]? = σ[i]?
def tS (pin : Nat → Bool) (ρ : SX) : TS := fun Z σ H => ∃ E S fl E', RepE K H E σ S ∧ ρ E = some (fl, E') ∧ match fl with
  | .nx => ∀ σ' H' S', Stp K σ' (tot S) H E' S' H' → PinEq pin σ σ' → Z.nx σ' H'
  | .bk => ∀ σ' H' S', Stp K σ' (tot S) H E' S' H' → PinEq pin σ σ' → Z.bk σ' H'
  | .ct => ∀ σ' H' S', Stp K σ' (tot S) H E' S' H' → PinEq pin σ σ' → Z.ct σ' H'
  | .rt d => ∀ v σ' H' S' T, Stp K σ' (tot S) H E' S' H' → PinEq pin σ σ' → Rep K H' d v T → Ow (tot S) H S' H' T → Z.rt v H'
end
abbrev DE (X : Cx) (p : Bool) (e : Expr) (ρ : EX) : Prop := PE X e (tD X.K p ρ)
abbrev DO (X : Cx) (p : Bool) (e : Expr) (ρ : OX) : Prop := PE X e (tO X.K p ρ)
abbrev DOs (X : Cx) (p : Bool) (es : List Expr) (ρ : OXs) : Prop := PA X es (tOs X.K p ρ)
abbrev DT (X : Cx) (p : Bool) (e : Expr) (ρ : BX) : Prop := PT X e (tT X.K p ρ)
abbrev DW (X : Cx) (p : Bool) (e : Expr) (ρ : BX) : Prop := PW X e (tT X.K p ρ)
abbrev DS (X : Cx) (pin : Nat → Bool) (st : Stmt) (ρ : SX) : Prop := PS X st (tS X.K pin ρ)
abbrev DSs (X : Cx) (pin : Nat → Bool) (st : List Stmt) (ρ : SX) : Prop := PSs X st (tS X.K pin ρ)

section
variable {X : Cx}
theorem PE.imp {e : Expr} {t t' : TE} (h : PE X e t) (i : ∀ σ H Q, t' σ H Q → t σ H Q) : PE X e t' := ⟨fun pins s σ H Q I w => h.run pins s σ H Q I (i σ H Q w)⟩
theorem PT.imp {e : Expr} {t t' : TT} (h : PT X e t) (i : ∀ σ H Q, t' σ H Q → t σ H Q) : PT X e t' := ⟨fun pins s σ H Q I w => h.run pins s σ H Q I (i σ H Q w)⟩
theorem PW.imp {e : Expr} {t t' : TT} (h : PW X e t) (i : ∀ σ H Q, t' σ H Q → t σ H Q) : PW X e t' := ⟨fun wh pins s σ H Q I w => h.run wh pins s σ H Q I (i σ H Q w)⟩
theorem PA.imp {e : List Expr} {t t' : TA} (h : PA X e t) (i : ∀ σ H Q, t' σ H Q → t σ H Q) : PA X e t' := ⟨fun pos pins s σ H Q I w => h.run pos pins s σ H Q I (i σ H Q w)⟩
theorem PS.imp {e : Stmt} {t t' : TS} (h : PS X e t) (i : ∀ Z σ H, t' Z σ H → t Z σ H) : PS X e t' := ⟨fun pins s σ H Z I w => h.run pins s σ H Z I (i Z σ H w)⟩
theorem PSs.imp {e : List Stmt} {t t' : TS} (h : PSs X e t) (i : ∀ Z σ H, t' Z σ H → t Z σ H) : PSs X e t' := ⟨fun pins s σ H Z I w => h.run pins s σ H Z I (i Z σ H w)⟩
end

/-! ### operands -/
def rd (tk : Tk) (E : Env) : Option D := match tk with
  | .own d => some d
  | .slot i => match E[i]? with
    | some (some d) => some d
    | _ => none
section
variable {K : PySem.W.Frag} {H H' : Hp} {E : Env} {σ : L2.St} {S : Nat → AS}
theorem rd_slot {i : Nat} {d : D} (h : rd (.slot i) E = some d) : E[i]? = some (some d) := by
  have h : (match E[i]? with
    | some (some d) => some d
    | _ => none) = some d := h
  split at h
  · rename_i d' e
    rw [e, Option.some.inj h]
  · cases h
theorem TkOk.rd {tk : Tk} {v : V} {T : AS} {d : D} (h : TkOk K H σ tk v T) (r : RepE K H E σ S) (e : rd tk E = some d) : ∃ T', Rep K H d v T' := by
  cases tk with
  | own d' => cases e; exact ⟨T, h⟩
  | slot i =>
    obtain ⟨v', h1, h2⟩ := r.at_ i d (rd_slot e)
    have h : σ[i]? = some (some v) := h
    rw [h] at h1; cases h1
    exact ⟨_, h2⟩
theorem TkOk.frm {tk : Tk} {v : V} {T U : AS} (h : TkOk K H σ tk v T) (f : Frm U H H') (m : Mu H U) (d : Disj T U) : TkOk K H' σ tk v T := by
  cases tk with
  | own d' => exact Rep.frm h f m d
  | slot i => exact h
theorem TksOk.frm : ∀ {ts : List Tk} {vs : List V} {T U : AS}, TksOk K H σ ts vs T → Frm U H H' → Mu H U → Disj T U → TksOk K H' σ ts vs T
  | [], _, _, _, h, _, _, _ => h
  | t :: ts, _, _, _, h, f, m, d => by
    obtain ⟨v, r, T1, T2, e, h1, h2, s1, s2, dj⟩ := h
    exact ⟨v, r, T1, T2, e, h1.frm f m (d.mono s1 Sub.refl), TksOk.frm h2 f m (d.mono s2 Sub.refl), s1, s2, dj⟩
def rds : List Tk → Env → Option (List D)
  | [], _ => some []
  | t :: ts, E => match rd t E, rds ts E with
    | some d, some ds => some (d :: ds)
    | _, _ => none
/-- values as they are read, whoever owns them -/
def RepB (K : PySem.W.Frag) (H : Hp) : List D → List V → Prop
  | [], vs => vs = []
  | d :: ds, vs => ∃ v r T, vs = v :: r ∧ Rep K H d v T ∧ RepB K H ds r
theorem rds_cons {t : Tk} {ts : List Tk} {ds : List D} (h : rds (t :: ts) E = some ds) : ∃ d r, ds = d :: r ∧ rd t E = some d ∧ rds ts E = some r := by
  unfold rds at h
  split at h
  · rename_i d r e1 e2
    exact ⟨d, r, (Option.some.inj h).symm, e1, e2⟩
  · cases h
theorem TksOk.rds : ∀ {ts : List Tk} {vs : List V} {T : AS} {ds : List D}, TksOk K H σ ts vs T → RepE K H E σ S → Dn.rds ts E = some ds → RepB K H ds vs
  | [], _, _, _, h, _, e => by cases e; exact h
  | t :: ts, _, _, _, h, r, e => by
    obtain ⟨v, vs, T1, T2, e1, h1, h2, s1, s2, dj⟩ := h
    obtain ⟨d, ds, rfl, q1, q2⟩ := rds_cons e
    obtain ⟨T', z⟩ := h1.rd r q1
    exact ⟨v, vs, T', e1, z, TksOk.rds h2 r q2⟩
end

section
variable {X : Cx} {p q : Bool} {e : Expr} {es : List Expr}
/-- a value as an operand -/
def oE (ρ : EX) : OX := fun E => match ρ E with
  | some (d, E1) => some (.own d, E1)
  | none => none
def oV (i : Nat) : OX := fun E => match E[i]? with
  | some (some _) => some (.slot i, E)
  | _ => none
theorem do_e {ρ : EX} (h : DE X p e ρ) : DO X p e (oE ρ) := by
  refine PE.imp h fun σ H Q w => ?_
  obtain ⟨E, S, tk, E', r, w1, w⟩ := w
  unfold oE at w1
  cases q : ρ E with
  | none => rw [q] at w1; cases w1
  | some z =>
    obtain ⟨d, E1⟩ := z
    rw [q] at w1
    have w1 : some (Tk.own d, E1) = some (tk, E') := w1
    injection w1 with w1
    injection w1 with w2 w3
    subst w2 w3
    exact ⟨E, S, d, E1, r, q, w⟩
/-- a name's slot, as an operand -/
theorem do_v {i : Nat} (h : PE X e (tVar i)) : DO X true e (oV i) := by
  refine PE.imp h fun σ H Q w => ?_
  obtain ⟨E, S, tk, E', r, w1, w⟩ := w
  unfold oV at w1
  split at w1
  · rename_i d e1
    cases w1
    obtain ⟨v, h1, h2⟩ := r.at_ i d e1
    exact ⟨v, h1, w v H S no (Stp.refl r) h1 Ow.no fun _ => Same.refl H⟩
  · cases w1
end
end Dn
end
section
/-! Dn2: the rules for expressions. -/
namespace Dn
open PySem PySem.Spec L2

/-- what follows a value made anew -/
def Fin (K : PySem.W.Frag) (H : Hp) (d : D) (Q : VK) : Prop := ∀ v H' T, Rep K H' d v T → Same H H' → (∀ a, T a → H a = none) → Mu H' T → Q v H'
/-- an operation's reading, by trees -/
def OpD (K : PySem.W.Frag) (r : R2) (o : D → D → Option D) : Prop := ∀ (H : Hp) (d1 : D) (v1 : V) (T1 : AS) (d2 : D) (v2 : V) (T2 : AS) (d : D) (Q : VK),
  Rep K H d1 v1 T1 → Rep K H d2 v2 T2 → o d1 d2 = some d → Fin K H d Q → r v1 v2 H Q
def UnD (K : PySem.W.Frag) (r : V → Hp → VK → Prop) (o : D → Option D) : Prop := ∀ (H : Hp) (d1 : D) (v1 : V) (T1 : AS) (d : D) (Q : VK),
  Rep K H d1 v1 T1 → o d1 = some d → Fin K H d Q → r v1 H Q
def CaD (K : PySem.W.Frag) (r : List V → Hp → VK → Prop) (o : List D → Option D) : Prop := ∀ (H : Hp) (ds : List D) (vs : List V) (d : D) (Q : VK),
  RepB K H ds vs → o ds = some d → Fin K H d Q → r vs H Q
def SlD (K : PySem.W.Frag) (r : V → Option Int → Option Int → Hp → VK → Prop) (o : D → Option Int → Option Int → Option D) : Prop := ∀ (H : Hp) (d1 : D) (v1 : V) (T1 : AS) (lo hi : Option Int) (d : D) (Q : VK),
  Rep K H d1 v1 T1 → o d1 lo hi = some d → Fin K H d Q → r v1 lo hi H Q

section
variable {K : PySem.W.Frag} {H H1 H2 H' : Hp} {E' : Env} {σ : L2.St} {S : AS} {S' S2 : Nat → AS} {p : Bool} {d : D} {Q : VK}
theorem fin_of (w : ∀ v H' S' T, Stp K σ S H E' S' H' → Rep K H' d v T → Ow S H S' H' T → (p = true → Same H H') → Q v H') (st : Stp K σ S H E' S2 H2) (sm : p = true → Same H H2) : Fin K H2 d Q :=
  fun v H' T r s f m => w v H' S2 T (st.same s) r (st.fresh f m) fun hp => (sm hp).trans s
theorem Fin.scal {v : V} (f : Fin K H d Q) (r : Rep K H d v no) : Q v H := f v H no r (Same.refl H) (fun _ h => h.elim) Mu.nil
theorem tk_step {tk : Tk} {v : V} {T : AS} (k : TkOk K H1 σ tk v T) (o : Ow S H S' H1 T) (st : Stp K σ (tot S') H1 E' S2 H2) (mu : Mu H1 (tot S')) : TkOk K H2 σ tk v T := k.frm st.frm mu o.dj
end

section
variable {X : Cx} {p q p1 p2 p3 : Bool} {a b c e : Expr} {es : List Expr} {pos : Pos}

/-! ### two operands -/
def eOp2 (o : D → D → Option D) (x y : OX) : EX := fun E => (x E).bind fun s => (y s.2).bind fun t => (rd s.1 t.2).bind fun u => (rd t.1 t.2).bind fun w => (o u w).map fun d => (d, t.2)
theorem two_ok {r : R2} {o : D → D → Option D} {x y : OX} (hd : OpD X.K r o) {σ : L2.St} {H : Hp} {Q : VK} (w : tD X.K (p && q) (eOp2 o x y) σ H Q) : tOp r (tO X.K p x) (tO X.K q y) σ H Q := by
  obtain ⟨E, S, d, E', r0, w1, w⟩ := w
  simp only [eOp2, Option.bind_eq_some_iff, Option.map_eq_some_iff] at w1
  obtain ⟨⟨t1, E1⟩, e1, ⟨t2, E2⟩, e2, u1, ru1, u2, ru2, d', eo, ee⟩ := w1
  injection ee with ee1 ee2
  subst ee1 ee2
  refine ⟨E, S, t1, E1, r0, e1, fun v1 H1 S1 T1 s1 k1 o1 m1 => ⟨E1, S1, t2, E2, s1.env, e2, fun v2 H2 S2 T2 s2 k2 o2 m2 => ?_⟩⟩
  obtain ⟨T1', z1⟩ := (tk_step k1 o1 s2 s1.env.mu).rd s2.env ru1
  obtain ⟨T2', z2⟩ := k2.rd s2.env ru2
  exact hd H2 u1 v1 T1' u2 v2 T2' d' Q z1 z2 eo (fin_of w (s1.trans s2) fun hp => by
    rw [Bool.and_eq_true] at hp
    exact (m1 hp.1).trans (m2 hp.2))
theorem de_op {op : Operator} {r : R2} {o : D → D → Option D} {x y : OX} (ho : OpR X (binaryOp op) r) (hd : OpD X.K r o) (ha : DO X p a x) (hb : DO X q b y) : DE X (p && q) (.BinOp a op b pos) (eOp2 o x y) :=
  PE.imp (pe_op ho ha hb) fun _ _ _ w => two_ok hd w
theorem de_cmp {op : CmpOp} {r : R2} {o : D → D → Option D} {x y : OX} (ho : OpR X (compareOp op) r) (hd : OpD X.K r o) (ha : DO X p a x) (hb : DO X q b y) (hm : behindInMarks op b = false) : DE X (p && q) (.Compare a [op] [b] pos) (eOp2 o x y) :=
  PE.imp (pe_cmpR ho ha hb hm) fun _ _ _ w => two_ok hd w
/-- a value as a test -/
def bE (ρ : EX) : BX := fun E => (ρ E).bind fun s => match s.1 with
  | .bl b => some (b, s.2)
  | _ => none
theorem bE_some {ρ : EX} {E : Env} {b : Bool} {E' : Env} (h : bE ρ E = some (b, E')) : ρ E = some (.bl b, E') := by
  unfold bE at h
  rw [Option.bind_eq_some_iff] at h
  obtain ⟨⟨d, E1⟩, e1, e2⟩ := h
  cases d <;> simp at e2
  obtain ⟨rfl, rfl⟩ := e2
  exact e1
theorem test_ok {ρ : EX} {σ : L2.St} {H : Hp} {Q : Bool → Hp → Prop} (w : tT X.K p (bE ρ) σ H Q) : tB (tD X.K p ρ) σ H Q := by
  obtain ⟨E, S, b, E', r0, w1, w⟩ := w
  exact ⟨E, S, .bl b, E', r0, bE_some w1, fun v H' S' T s k o m => ⟨b, k, w H' S' s m⟩⟩
theorem dt_val {ρ : EX} (h : DE X p e ρ) (he : ∀ whole, isTrue e X.env whole = (do let v ← whole; standAt e.pos; holding [v] (truthy v)) := by intro _; rfl) : DT X p e (bE ρ) :=
  PT.imp (pt_val h he) fun _ _ _ w => test_ok w
theorem dt_cmp {op : CmpOp} {r : R2} {o : D → D → Option D} {x y : OX} (ho : OpR X (compareOp op) r) (hd : OpD X.K r o) (ha : DO X p a x) (hb : DO X q b y) (hm : behindInMarks op b = false) : DT X (p && q) (.Compare a [op] [b] pos) (bE (eOp2 o x y)) :=
  PT.imp (pt_cmpR ho ha hb hm) fun σ H Q w => two_ok (Q := fun x H' => ∃ k, x = .bl k ∧ Q k H') hd (test_ok w)
/-- two comparisons in a chain, the middle one asked once -/
def eChain (o o' : D → D → Option D) (x y z : OX) : EX := fun E => (x E).bind fun s => (y s.2).bind fun t => (rd s.1 t.2).bind fun u => (rd t.1 t.2).bind fun w => (o u w).bind fun d => match d with
  | .bl false => some (.bl false, t.2)
  | .bl true => (z t.2).bind fun t3 => (rd t.1 t3.2).bind fun w => (rd t3.1 t3.2).bind fun w3 => (o' w w3).map fun d => (d, t3.2)
  | _ => none
theorem Bool.and3 {a b c : Bool} (h : (a && b && c) = true) : a = true ∧ b = true ∧ c = true := by
  rw [Bool.and_eq_true, Bool.and_eq_true] at h
  exact ⟨h.1.1, h.1.2, h.2⟩
theorem chain_ok {r r' : R2} {o o' : D → D → Option D} {x y z : OX} (hd : OpD X.K r o) (hd' : OpD X.K r' o') {σ : L2.St} {H : Hp} {Q : VK} (w : tD X.K (p1 && p2 && p3) (eChain o o' x y z) σ H Q) : tChain r r' (tO X.K p1 x) (tO X.K p2 y) (tO X.K p3 z) σ H Q := by
  obtain ⟨E, S, d, E', r0, w1, w⟩ := w
  simp only [eChain, Option.bind_eq_some_iff] at w1
  obtain ⟨⟨t1, E1⟩, e1, ⟨t2, E2⟩, e2, u1, ru1, u2, ru2, d', eo, ee⟩ := w1
  refine ⟨E, S, t1, E1, r0, e1, fun v1 H1 S1 T1 s1 k1 o1 m1 => ⟨E1, S1, t2, E2, s1.env, e2, fun v2 H2 S2 T2 s2 k2 o2 m2 => ?_⟩⟩
  obtain ⟨T1', z1⟩ := (tk_step k1 o1 s2 s1.env.mu).rd s2.env ru1
  obtain ⟨T2', z2⟩ := k2.rd s2.env ru2
  refine hd H2 u1 v1 T1' u2 v2 T2' d' _ z1 z2 eo fun v3 H3 T3 z3 s3 f3 mu3 => ?_
  cases d' with
  | bl k =>
    refine ⟨k, z3, ?_⟩
    have s123 : Stp X.K σ (tot S) H E2 S2 H3 := (s1.trans s2).same s3
    cases k with
    | false =>
      have ee : some (D.bl false, E2) = some (d, E') := ee
      injection ee with ee
      injection ee with e1 e2
      subst e1 e2
      rw [if_neg Bool.false_ne_true]
      exact w _ H3 S2 no s123 rfl Ow.no fun hp => by
        obtain ⟨h1, h2, _⟩ := Bool.and3 hp
        exact ((m1 h1).trans (m2 h2)).trans s3
    | true =>
      simp only [Option.bind_eq_some_iff, Option.map_eq_some_iff] at ee
      obtain ⟨⟨t3, E3⟩, e3, u2', ru2', u3, ru3, d3, eo3, ee⟩ := ee
      injection ee with ee1 ee2
      subst ee1 ee2
      rw [if_pos rfl]
      refine ⟨E2, S2, t3, E3, s123.env, e3, fun v4 H4 S4 T4 s4 k4 o4 m4 => ?_⟩
      have k2' : TkOk X.K H3 σ t2 v2 T2 := k2.frm (U := no) (Same.frm s3) Mu.nil Disj.no_r
      have k2'' : TkOk X.K H4 σ t2 v2 T2 := tk_step k2' (o2.same s3) s4 s123.env.mu
      obtain ⟨T2', z2⟩ := k2''.rd s4.env ru2'
      obtain ⟨T4', z4⟩ := k4.rd s4.env ru3
      exact hd' H4 u2' v2 T2' u3 v4 T4' d3 Q z2 z4 eo3 (fin_of w (s123.trans s4) fun hp => by
        obtain ⟨h1, h2, h3⟩ := Bool.and3 hp
        exact (((m1 h1).trans (m2 h2)).trans s3).trans (m4 h3))
  | non => simp at ee
  | int _ => simp at ee
  | str _ => simp at ee
  | tup _ => simp at ee
  | lst _ => simp at ee
  | dcK _ => simp at ee
  | dcT _ => simp at ee
  | frz _ => simp at ee
theorem de_chain {op op' : CmpOp} {r r' : R2} {o o' : D → D → Option D} {x y z : OX} (ho : OpR X (compareOp op) r) (hd : OpD X.K r o) (ho' : OpR X (compareOp op') r') (hd' : OpD X.K r' o') (ha : DO X p1 a x) (hb : DO X p2 b y) (hc : DO X p3 c z) (hm : lastMarks [op, op'] [b, c] = false := by with_unfolding_all rfl) :
    DE X (p1 && p2 && p3) (.Compare a [op, op'] [b, c] pos) (eChain o o' x y z) := PE.imp (pe_chain ho ho' ha hb hc hm) fun _ _ _ w => chain_ok hd hd' w
theorem dt_chain {op op' : CmpOp} {r r' : R2} {o o' : D → D → Option D} {x y z : OX} (ho : OpR X (compareOp op) r) (hd : OpD X.K r o) (ho' : OpR X (compareOp op') r') (hd' : OpD X.K r' o') (ha : DO X p1 a x) (hb : DO X p2 b y) (hc : DO X p3 c z) (hm : lastMarks [op, op'] [b, c] = false := by with_unfolding_all rfl) :
    DT X (p1 && p2 && p3) (.Compare a [op, op'] [b, c] pos) (bE (eChain o o' x y z)) := PT.imp (pt_chain ho ho' ha hb hc hm) fun σ H Q w => chain_ok (Q := fun x H' => ∃ k, x = .bl k ∧ Q k H') hd hd' (test_ok w)

/-! ### one operand -/
def eUn (o : D → Option D) (x : OX) : EX := fun E => (x E).bind fun s => (rd s.1 s.2).bind fun u => (o u).map fun d => (d, s.2)
theorem de_un {op : UnaryOp} {r : V → Hp → VK → Prop} {o : D → Option D} {x : OX} (ho : UnR X (unaryOp op) r) (hd : UnD X.K r o) (ha : DO X p a x) : DE X p (.UnaryOp op a pos) (eUn o x) := by
  refine PE.imp (pe_un ho ha) fun σ H Q w => ?_
  obtain ⟨E, S, d, E', r0, w1, w⟩ := w
  simp only [eUn, Option.bind_eq_some_iff, Option.map_eq_some_iff] at w1
  obtain ⟨⟨t1, E1⟩, e1, u1, ru1, d', eo, ee⟩ := w1
  injection ee with ee1 ee2
  subst ee1 ee2
  refine ⟨E, S, t1, E1, r0, e1, fun v1 H1 S1 T1 s1 k1 o1 m1 => ?_⟩
  obtain ⟨T1', z1⟩ := k1.rd s1.env ru1
  exact hd H1 u1 v1 T1' d' Q z1 eo (fin_of w s1 m1)

/-! ### names, constants -/
/-- a name's value, taken: what can be changed goes out of its slot -/
def eV (i : Nat) : EX := fun E => match E[i]? with
  | some (some d) => if d.imm = true then some (d, E) else some (d, E.set i none)
  | _ => none
theorem de_v {i : Nat} (h : PE X e (tVar i)) : DE X true e (eV i) := by
  refine PE.imp h fun σ H Q w => ?_
  obtain ⟨E, S, d, E', r0, w1, w⟩ := w
  unfold eV at w1
  split at w1
  · rename_i d' e1
    obtain ⟨v, h1, h2⟩ := r0.at_ i d' e1
    refine ⟨v, h1, ?_⟩
    by_cases hi : d'.imm = true
    · rw [if_pos hi] at w1
      cases w1
      exact w v H S no (Stp.refl r0) (h2.imm hi) Ow.no fun _ => Same.refl H
    · rw [if_neg hi] at w1
      cases w1
      exact w v H _ (S i) ⟨r0.drop, Frm.refl, News.refl.sub tot_drop⟩ h2 ⟨drop_disj r0, r0.mui i, News.refl.sub sub_tot⟩ fun _ => Same.refl H
  · cases w1
/-- a name's value, copied: of what cannot be changed -/
def eC (i : Nat) : EX := fun E => match E[i]? with
  | some (some d) => if d.imm = true then some (d, E) else none
  | _ => none
def eK (d : D) : EX := fun E => some (d, E)
theorem de_k {v : V} {d : D} (h : PE X e (tC v)) (r : ∀ H, Rep X.K H d v no) : DE X true e (eK d) := by
  refine PE.imp h fun σ H Q w => ?_
  obtain ⟨E, S, d', E', r0, w1, w⟩ := w
  cases w1
  exact w v H S no (Stp.refl r0) (r H) Ow.no fun _ => Same.refl H
theorem de_int {i j} : DE X true (.Constant (.int i) j pos) (eK (.int i)) := de_k pe_int fun _ => rfl
theorem de_bl {i j} : DE X true (.Constant (.bool i) j pos) (eK (.bl i)) := de_k pe_bl fun _ => rfl
theorem de_non {j} : DE X true (.Constant .none j pos) (eK .non) := de_k pe_non fun _ => rfl
theorem de_str {x j} : DE X true (.Constant (.str x) j pos) (eK (.str x)) := de_k pe_str fun _ => rfl
theorem de_globI {x : Str} {i : Int} (hg : Gl X x) (hm : ∃ t, X.mg x = some (.int i t)) (hd : (x == ("__debug__" : Str)) = false := by decide) : DE X true (.Name x pos) (eK (.int i)) := by
  obtain ⟨t, hm⟩ := hm
  exact de_k (pe_glob (v := .int i) hg hm ⟨t, rfl⟩ hd) fun _ => rfl
theorem de_globS {x z : Str} (hg : Gl X x) (hm : ∃ t, X.mg x = some (.str z t)) (hd : (x == ("__debug__" : Str)) = false := by decide) : DE X true (.Name x pos) (eK (.str z)) := by
  obtain ⟨t, hm⟩ := hm
  exact de_k (pe_glob (v := .str z) hg hm ⟨t, rfl⟩ hd) fun _ => rfl

/-! ### a if t else b; and, or, not -/
def eIf (t : BX) (x y : EX) : EX := fun E => (t E).bind fun s => if s.1 = true then x s.2 else y s.2
theorem de_if {t : BX} {x y : EX} (hc : DT X p1 c t) (ha : DE X p2 a x) (hb : DE X p3 b y) : DE X (p1 && p2 && p3) (.IfExp c a b pos) (eIf t x y) := by
  refine PE.imp (pe_ifExp hc ha hb) fun σ H Q w => ?_
  obtain ⟨E, S, d, E', r0, w1, w⟩ := w
  simp only [eIf, Option.bind_eq_some_iff] at w1
  obtain ⟨⟨k, E1⟩, e1, w1⟩ := w1
  refine ⟨E, S, k, E1, r0, e1, fun H1 S1 s1 m1 => ?_⟩
  cases k with
  | true =>
    rw [if_pos rfl] at w1 ⊢
    exact ⟨E1, S1, d, E', s1.env, w1, fun v H2 S2 T s2 k2 o2 m2 => w v H2 S2 T (s1.trans s2) k2 (o2.pre s1) fun hp => by
      obtain ⟨h1, h2, _⟩ := Bool.and3 hp
      exact (m1 h1).trans (m2 h2)⟩
  | false =>
    rw [if_neg Bool.false_ne_true] at w1 ⊢
    exact ⟨E1, S1, d, E', s1.env, w1, fun v H2 S2 T s2 k2 o2 m2 => w v H2 S2 T (s1.trans s2) k2 (o2.pre s1) fun hp => by
      obtain ⟨h1, _, h3⟩ := Bool.and3 hp
      exact (m1 h1).trans (m2 h3)⟩
variable {rest : List Expr}
def bAnd (t u : BX) : BX := fun E => (t E).bind fun s => if s.1 = true then u s.2 else some (false, s.2)
def bOr (t u : BX) : BX := fun E => (t E).bind fun s => if s.1 = true then some (true, s.2) else u s.2
def bNot (t : BX) : BX := fun E => (t E).map fun s => (!s.1, s.2)
theorem dw_and1 {t : BX} (h : DT X p a t) : DW X p (.BoolOp .And [a] pos) t := pw_and1 h
theorem dw_or1 {t : BX} (h : DT X p a t) : DW X p (.BoolOp .Or [a] pos) t := pw_or1 h
theorem dw_and {t u : BX} (ha : DT X p a t) (hb : DW X q (.BoolOp .And (b :: rest) pos) u) : DW X (p && q) (.BoolOp .And (a :: b :: rest) pos) (bAnd t u) := by
  refine PW.imp (pw_and ha hb) fun σ H Q w => ?_
  obtain ⟨E, S, k, E', r0, w1, w⟩ := w
  simp only [bAnd, Option.bind_eq_some_iff] at w1
  obtain ⟨⟨k1, E1⟩, e1, w1⟩ := w1
  refine ⟨E, S, k1, E1, r0, e1, fun H1 S1 s1 m1 => ?_⟩
  cases k1 with
  | true =>
    rw [if_pos rfl] at w1 ⊢
    exact ⟨E1, S1, k, E', s1.env, w1, fun H2 S2 s2 m2 => w H2 S2 (s1.trans s2) fun hp => by
      rw [Bool.and_eq_true] at hp
      exact (m1 hp.1).trans (m2 hp.2)⟩
  | false =>
    rw [if_neg Bool.false_ne_true] at w1 ⊢
    cases w1
    exact w H1 S1 s1 fun hp => by
      rw [Bool.and_eq_true] at hp
      exact m1 hp.1
theorem dw_or {t u : BX} (ha : DT X p a t) (hb : DW X q (.BoolOp .Or (b :: rest) pos) u) : DW X (p && q) (.BoolOp .Or (a :: b :: rest) pos) (bOr t u) := by
  refine PW.imp (pw_or ha hb) fun σ H Q w => ?_
  obtain ⟨E, S, k, E', r0, w1, w⟩ := w
  simp only [bOr, Option.bind_eq_some_iff] at w1
  obtain ⟨⟨k1, E1⟩, e1, w1⟩ := w1
  refine ⟨E, S, k1, E1, r0, e1, fun H1 S1 s1 m1 => ?_⟩
  cases k1 with
  | true =>
    rw [if_pos rfl] at w1 ⊢
    cases w1
    exact w H1 S1 s1 fun hp => by
      rw [Bool.and_eq_true] at hp
      exact m1 hp.1
  | false =>
    rw [if_neg Bool.false_ne_true] at w1 ⊢
    exact ⟨E1, S1, k, E', s1.env, w1, fun H2 S2 s2 m2 => w H2 S2 (s1.trans s2) fun hp => by
      rw [Bool.and_eq_true] at hp
      exact (m1 hp.1).trans (m2 hp.2)⟩
theorem dt_not {t : BX} (ha : DT X p a t) : DT X p (.UnaryOp .Not a pos) (bNot t) := by
  refine PT.imp (pt_not ha) fun σ H Q w => ?_
  obtain ⟨E, S, k, E', r0, w1, w⟩ := w
  simp only [bNot, Option.map_eq_some_iff] at w1
  obtain ⟨⟨k1, E1⟩, e1, ee⟩ := w1
  injection ee with ee1 ee2
  subst ee1 ee2
  exact ⟨E, S, k1, E1, r0, e1, w⟩
/-- .. as values -/
def eB (t : BX) : EX := fun E => (t E).map fun s => (.bl s.1, s.2)
def eAnd (x : EX) (y : EX) : EX := fun E => (bE x E).bind fun s => if s.1 = true then y s.2 else some (.bl false, s.2)
def eOr (x : EX) (y : EX) : EX := fun E => (bE x E).bind fun s => if s.1 = true then some (.bl true, s.2) else y s.2
def eNot (x : EX) : EX := fun E => (bE x E).map fun s => (.bl (!s.1), s.2)
theorem de_one {op} {x : EX} (h : DE X p a x) : DE X p (.BoolOp op [a] pos) x := pe_one h
theorem de_and {x y : EX} (ha : DE X p a x) (hb : DE X q (.BoolOp .And (b :: rest) pos) y) : DE X (p && q) (.BoolOp .And (a :: b :: rest) pos) (eAnd x y) := by
  refine PE.imp (pe_and ha hb) fun σ H Q w => ?_
  obtain ⟨E, S, d, E', r0, w1, w⟩ := w
  simp only [eAnd, Option.bind_eq_some_iff] at w1
  obtain ⟨⟨k1, E1⟩, e1, w1⟩ := w1
  refine ⟨E, S, .bl k1, E1, r0, bE_some e1, fun v1 H1 S1 T1 s1 z1 o1 m1 => ⟨k1, z1, ?_⟩⟩
  cases k1 with
  | true =>
    rw [if_pos rfl] at w1 ⊢
    exact ⟨E1, S1, d, E', s1.env, w1, fun v H2 S2 T s2 k2 o2 m2 => w v H2 S2 T (s1.trans s2) k2 (o2.pre s1) fun hp => by
      rw [Bool.and_eq_true] at hp
      exact (m1 hp.1).trans (m2 hp.2)⟩
  | false =>
    rw [if_neg Bool.false_ne_true] at w1 ⊢
    cases w1
    exact w (.bl false) H1 S1 no s1 rfl Ow.no fun hp => by
      rw [Bool.and_eq_true] at hp
      exact m1 hp.1
theorem de_or {x y : EX} (ha : DE X p a x) (hb : DE X q (.BoolOp .Or (b :: rest) pos) y) : DE X (p && q) (.BoolOp .Or (a :: b :: rest) pos) (eOr x y) := by
  refine PE.imp (pe_or ha hb) fun σ H Q w => ?_
  obtain ⟨E, S, d, E', r0, w1, w⟩ := w
  simp only [eOr, Option.bind_eq_some_iff] at w1
  obtain ⟨⟨k1, E1⟩, e1, w1⟩ := w1
  refine ⟨E, S, .bl k1, E1, r0, bE_some e1, fun v1 H1 S1 T1 s1 z1 o1 m1 => ⟨k1, z1, ?_⟩⟩
  cases k1 with
  | true =>
    rw [if_pos rfl] at w1 ⊢
    cases w1
    exact w (.bl true) H1 S1 no s1 rfl Ow.no fun hp => by
      rw [Bool.and_eq_true] at hp
      exact m1 hp.1
  | false =>
    rw [if_neg Bool.false_ne_true] at w1 ⊢
    exact ⟨E1, S1, d, E', s1.env, w1, fun v H2 S2 T s2 k2 o2 m2 => w v H2 S2 T (s1.trans s2) k2 (o2.pre s1) fun hp => by
      rw [Bool.and_eq_true] at hp
      exact (m1 hp.1).trans (m2 hp.2)⟩
theorem de_not {x : EX} (ha : DE X p a x) : DE X p (.UnaryOp .Not a pos) (eNot x) := by
  refine PE.imp (pe_not ha) fun σ H Q w => ?_
  obtain ⟨E, S, d, E', r0, w1, w⟩ := w
  simp only [eNot, Option.map_eq_some_iff] at w1
  obtain ⟨⟨k1, E1⟩, e1, ee⟩ := w1
  injection ee with ee1 ee2
  subst ee1 ee2
  exact ⟨E, S, .bl k1, E1, r0, bE_some e1, fun v1 H1 S1 T1 s1 z1 o1 m1 => ⟨k1, z1, w _ H1 S1 no s1 rfl Ow.no m1⟩⟩

/-! ### argument lists -/
def osNil : OXs := fun E => some ([], E)
def osCons (x : OX) (r : OXs) : OXs := fun E => (x E).bind fun s => (r s.2).map fun t => (s.1 :: t.1, t.2)
theorem TksOk.sub {K : PySem.W.Frag} {H : Hp} {σ : L2.St} : ∀ {ts : List Tk} {vs : List V} {T U : AS}, TksOk K H σ ts vs T → Sub T U → TksOk K H σ ts vs U
  | [], _, _, _, h, _ => h
  | t :: ts, _, _, _, h, s => by
    obtain ⟨v, r, T1, T2, e, h1, h2, s1, s2, dj⟩ := h
    exact ⟨v, r, T1, T2, e, h1, h2, fun a z => s a (s1 a z), fun a z => s a (s2 a z), dj⟩
theorem dos_nil : DOs X true [] osNil := by
  refine PA.imp pa_nil fun σ H Q w => ?_
  obtain ⟨E, S, tks, E', r0, w1, w⟩ := w
  cases w1
  exact w [] H S no (Stp.refl r0) rfl Ow.no fun _ => Same.refl H
theorem dos_cons {x : OX} {r : OXs} (ha : DO X p e x) (hr : DOs X q es r) (hs : starEach (e :: es) X.env = (false, eval e X.env) :: starEach es X.env := by rfl) : DOs X (p && q) (e :: es) (osCons x r) := by
  refine PA.imp (pa_cons ha hr hs) fun σ H Q w => ?_
  obtain ⟨E, S, tks, E', r0, w1, w⟩ := w
  simp only [osCons, Option.bind_eq_some_iff, Option.map_eq_some_iff] at w1
  obtain ⟨⟨t1, E1⟩, e1, ⟨t2, E2⟩, e2, ee⟩ := w1
  injection ee with ee1 ee2
  subst ee1 ee2
  refine ⟨E, S, t1, E1, r0, e1, fun v1 H1 S1 T1 s1 k1 o1 m1 => ⟨E1, S1, t2, E2, s1.env, e2, fun vs H2 S2 T2 s2 k2 o2 m2 => ?_⟩⟩
  refine w (v1 :: vs) H2 S2 (un T1 T2) (s1.trans s2) ⟨v1, vs, T1, T2, rfl, tk_step k1 o1 s2 s1.env.mu, k2, fun a z => .inl z, fun a z => .inr z, ?_⟩ ((o1.step s2 s1.env.mu).un (o2.pre s1)) fun hp => by
    rw [Bool.and_eq_true] at hp
    exact (m1 hp.1).trans (m2 hp.2)
  exact o2.new.disj o1.dj o1.mu
/-- *e, e a tuple or a list of what cannot be changed -/
def D.seq? : D → Option (List D)
  | .tup xs => some xs
  | .lst xs => some xs
  | .frz xs => some xs
  | _ => none
def osStar (x : OX) (r : OXs) : OXs := fun E => (x E).bind fun s => (rd s.1 s.2).bind fun d => d.seq?.bind fun xs => if D.imms xs = true then (r s.2).map fun t => (xs.map Tk.own ++ t.1, t.2) else none
theorem Rep.seq {K : PySem.W.Frag} {H : Hp} {d : D} {v : V} {T : AS} {xs : List D} (h : Rep K H d v T) (e : d.seq? = some xs) : ∃ a ys T', v = .ref a ∧ (SqL K H a ys ∨ SqT K H a ys) ∧ RepL K H xs ys T' := by
  cases d <;> simp [D.seq?] at e
  · subst e
    obtain ⟨a, ys, e1, q, r⟩ := h
    exact ⟨a, ys, _, e1, .inr q.seq, r⟩
  · subst e
    obtain ⟨a, ys, T0, e1, q, _, _, _, r⟩ := h
    exact ⟨a, ys, T0, e1, .inl (SqL.of q), r⟩
  · subst e
    obtain ⟨a, ys, e1, q, r⟩ := h
    exact ⟨a, ys, _, e1, .inl q.seq, r⟩
theorem tks_own {K : PySem.W.Frag} {H : Hp} {σ : L2.St} : ∀ {xs : List D} {ys : List V} {ts : List Tk} {vs : List V} {T : AS}, RepL K H xs ys no → TksOk K H σ ts vs T → TksOk K H σ (xs.map Tk.own ++ ts) (ys ++ vs) T
  | [], ys, _, _, _, h, t => by
    have h : ys = [] := h
    subst h
    exact t
  | d :: ds, _, _, _, T, h, t => by
    obtain ⟨v, vs, T1, T2, e, r1, r2, s1, s2, dj⟩ := h
    subst e
    refine ⟨v, _, no, T, rfl, r1.sub s1, tks_own (r2.sub s2) t, no_sub, Sub.refl, Disj.no_l⟩
theorem dos_star {x : OX} {r : OXs} {sp : Pos} (ha : DO X p e x) (hr : DOs X q es r) (hs : starEach (.Starred e sp :: es) X.env = (true, eval e X.env) :: starEach es X.env := by rfl) : DOs X (p && q) (.Starred e sp :: es) (osStar x r) := by
  refine PA.imp (StX.pa_star ha hr hs) fun σ H Q w => ?_
  obtain ⟨E, S, tks, E', r0, w1, w⟩ := w
  simp only [osStar, Option.bind_eq_some_iff] at w1
  obtain ⟨⟨t1, E1⟩, e1, d, rd1, xs, ex, w1⟩ := w1
  split at w1
  · rename_i hi
    simp only [Option.map_eq_some_iff] at w1
    obtain ⟨⟨t2, E2⟩, e2, ee⟩ := w1
    injection ee with ee1 ee2
    subst ee1 ee2
    refine ⟨E, S, t1, E1, r0, e1, fun v1 H1 S1 T1 s1 k1 o1 m1 => ?_⟩
    obtain ⟨T', z⟩ := k1.rd s1.env rd1
    obtain ⟨a, ys, T2', ev, hq, hr'⟩ := z.seq ex
    refine ⟨a, ys, ev, hq.symm, E1, S1, t2, E2, s1.env, e2, fun vs H2 S2 T2 s2 k2 o2 m2 => ?_⟩
    refine w (ys ++ vs) H2 S2 T2 (s1.trans s2) (tks_own ((hr'.imm hi).frm s2.frm s1.env.mu Disj.no_l) k2) (o2.pre s1) fun hp => by
      rw [Bool.and_eq_true] at hp
      exact (m1 hp.1).trans (m2 hp.2)
  · cases w1

/-! ### displays -/
def owns : List Tk → Option (List D)
  | [] => some []
  | .own d :: ts => (owns ts).map fun ds => d :: ds
  | .slot _ :: _ => none
theorem TksOk.owns {K : PySem.W.Frag} {H : Hp} {σ : L2.St} : ∀ {ts : List Tk} {vs : List V} {T : AS} {ds : List D}, TksOk K H σ ts vs T → Dn.owns ts = some ds → RepL K H ds vs T
  | [], _, _, _, h, e => by cases e; exact h
  | .own d :: ts, _, _, _, h, e => by
    obtain ⟨v, r, T1, T2, e1, h1, h2, s1, s2, dj⟩ := h
    simp only [Dn.owns, Option.map_eq_some_iff] at e
    obtain ⟨ds, e2, rfl⟩ := e
    exact ⟨v, r, T1, T2, e1, h1, TksOk.owns h2 e2, s1, s2, dj⟩
  | .slot _ :: ts, _, _, _, h, e => by cases e
theorem RepL.length {K : PySem.W.Frag} {H : Hp} : ∀ {ds : List D} {vs : List V} {T : AS}, RepL K H ds vs T → vs.length = ds.length
  | [], vs, _, h => by
    have h : vs = [] := h
    subst h; rfl
  | d :: ds, _, _, h => by
    obtain ⟨v, r, T1, T2, e, _, h2, _⟩ := h
    rw [e, List.length_cons, List.length_cons, RepL.length h2]
def eTup (r : OXs) : EX := fun E => (r E).bind fun s => (owns s.1).bind fun ds => if ds.length ≤ 1000 then some (.tup ds, s.2) else none
def eLst (r : OXs) : EX := fun E => (r E).bind fun s => (owns s.1).bind fun ds => if ds.length ≤ 1000 then some (.lst ds, s.2) else none
theorem Same.upd {H : Hp} {q : Addr} {o : HO} (h : H q = none) : Same H (upd H q o) := fun b u e => by rw [upd_ne (ne_of_none e h)]; exact e
theorem line1000 {n : Nat} (h : n ≤ 1000) : n ≤ sizeLine := Nat.le_trans h (by decide)
/-- a new tuple -/
abbrev bT (us : List Value) (xs : List V) : HO := .frz (tupO us) (.tup xs)
theorem bT_ok {P : Program} {w : World} {H : Hp} {h : Heap} {a : Addr} {us : List Value} {xs : List V} (e : h.get? a = some (tupO us)) (r : Vals xs us) (z : xs.length ≤ sizeLine) : ObjOk P w H h a (bT us xs) :=
  ⟨e, z, us, r, ⟨_, e, rfl, _, rfl⟩⟩
def tTupB (t : TA) : TE := fun σ H Q => t σ H fun xs H1 => xs.length ≤ sizeLine ∧ ∀ q us, H1 q = none → Q (.ref q) (upd H1 q (bT us xs))
theorem pe_tupB {t : TA} {k} (h : PA X es t) : PE X (.Tuple es k pos) (tTupB t) := by
  refine ⟨fun pins s σ H Q I hq => ?_⟩
  refine wpAny_Tuple_spliced (thn (h.run pos pins s σ H _ I hq) fun us s1 y => ?_)
  obtain ⟨xs, H1, I1, r, z, q⟩ := y
  refine ⟨by rw [← r.length]; exact z, .ref s1.heap.objs.size, upd H1 s1.heap.objs.size (bT us xs), ?_, rfl, q _ us (I1.hok.fresh (Nat.le_refl _))⟩
  exact I1.laid (t' := s1.toks) (fun b u e => Heap.get?_push_of_some _ e) (Nat.le_refl _) (bT_ok (Heap.get?_push_size _ rfl) r z)
theorem de_tup {r : OXs} {k} (h : DOs X p es r) : DE X p (.Tuple es k pos) (eTup r) := by
  refine PE.imp (pe_tupB h) fun σ H Q w => ?_
  obtain ⟨E, S, d, E', r0, w1, w⟩ := w
  simp only [eTup, Option.bind_eq_some_iff] at w1
  obtain ⟨⟨ts, E1⟩, e1, ds, e2, w1⟩ := w1
  split at w1
  · rename_i hl
    cases w1
    refine ⟨E, S, ts, E1, r0, e1, fun vs H1 S1 T1 s1 k1 o1 m1 => ?_⟩
    have R := k1.owns e2
    refine ⟨line1000 (by rw [R.length]; exact hl), fun q us hq => ?_⟩
    have sm : Same H1 (upd H1 q (bT us vs)) := Same.upd hq
    exact w (.ref q) _ S1 T1 (s1.same sm) ⟨q, vs, rfl, .inl ⟨us, upd_same⟩, R.frm (S := no) (Same.frm sm) Mu.nil Disj.no_r⟩ (o1.same sm) fun hp => (m1 hp).trans sm
  · cases w1
theorem de_lst {r : OXs} (h : DOs X p es r) : DE X p (.List es pos) (eLst r) := by
  refine PE.imp (pe_lst h) fun σ H Q w => ?_
  obtain ⟨E, S, d, E', r0, w1, w⟩ := w
  simp only [eLst, Option.bind_eq_some_iff] at w1
  obtain ⟨⟨ts, E1⟩, e1, ds, e2, w1⟩ := w1
  split at w1
  · rename_i hl
    cases w1
    refine ⟨E, S, ts, E1, r0, e1, fun vs H1 S1 T1 s1 k1 o1 m1 => ?_⟩
    have R := k1.owns e2
    refine ⟨line1000 (by rw [R.length]; exact hl), fun q hq => ?_⟩
    have sm : Same H1 (upd H1 q (.lst vs)) := Same.upd hq
    have nq : ¬ T1 q := fun z => by
      obtain ⟨o, e, _⟩ := o1.mu q z
      rw [hq] at e; cases e
    have nn : ∀ a, (fun b => b = q) a → H1 a = none := fun a z => by
      have z : a = q := z
      rw [z]; exact hq
    refine w (.ref q) _ S1 (un (fun b => b = q) T1) (s1.same sm) ⟨q, vs, T1, rfl, upd_same, .inl rfl, nq, fun a z => .inr z, R.frm (S := no) (Same.frm sm) Mu.nil Disj.no_r⟩ ((s1.fresh nn fun a z => ?_).un (o1.same sm)) fun hp => (m1 hp).trans sm
    have z : a = q := z
    rw [z]
    exact ⟨_, upd_same, rfl⟩
  · cases w1

/-! ### calls of built-ins -/
def eCa (o : List D → Option D) (r : OXs) : EX := fun E => (r E).bind fun s => (rds s.1 s.2).bind fun ds => (o ds).map fun d => (d, s.2)
theorem call_ok {r : List V → Hp → VK → Prop} {o : List D → Option D} {ρ : OXs} (hd : CaD X.K r o) {σ : L2.St} {H : Hp} {Q : VK} (w : tD X.K p (eCa o ρ) σ H Q) : tCB r (tOs X.K p ρ) σ H Q := by
  obtain ⟨E, S, d, E', r0, w1, w⟩ := w
  simp only [eCa, Option.bind_eq_some_iff, Option.map_eq_some_iff] at w1
  obtain ⟨⟨ts, E1⟩, e1, ds, e2, d', eo, ee⟩ := w1
  injection ee with ee1 ee2
  subst ee1 ee2
  refine ⟨E, S, ts, E1, r0, e1, fun vs H1 S1 T1 s1 k1 o1 m1 => ?_⟩
  exact hd H1 ds vs d' Q (k1.rds s1.env e2) eo (fin_of w s1 m1)
theorem de_callB {id : String} {x : Str} {r : List V → Hp → VK → Prop} {o : List D → Option D} {ρ : OXs} {np : Pos} (hc : CallR X (.builtin id) r) (hd : CaD X.K r o) (hg : Gl X x) (hm : X.mg x = none) (hv : bootBuiltins x = some (.builtin id)) (ha : DOs X p (e :: es) ρ)
    (hn : x ≠ "__name__" := by decide) (hdb : (x == ("__debug__" : Str)) = false := by decide)
    (he : starEach (e :: es) X.env = (false, eval e X.env) :: starEach es X.env := by rfl) (hpl : (backTo pos (starEach es X.env)).any (·.1) = false := by rfl) : DE X p (.Call (.Name x np) (e :: es) [] pos) (eCa o ρ) :=
  PE.imp (pe_callB hc hg hm hv ha hn hdb he hpl) fun _ _ _ w => call_ok hd w
theorem de_callTy {T : String} {x : Str} {r : List V → Hp → VK → Prop} {o : List D → Option D} {ρ : OXs} {np : Pos} (hc : CallR X (.type T) r) (hd : CaD X.K r o) (hg : Gl X x) (hm : X.mg x = none) (hv : bootBuiltins x = some (.type T)) (ha : DOs X p (e :: es) ρ)
    (hn : x ≠ "__name__" := by decide) (hdb : (x == ("__debug__" : Str)) = false := by decide)
    (he : starEach (e :: es) X.env = (false, eval e X.env) :: starEach es X.env := by rfl) (hpl : (backTo pos (starEach es X.env)).any (·.1) = false := by rfl) : DE X p (.Call (.Name x np) (e :: es) [] pos) (eCa o ρ) :=
  PE.imp (pe_callTy hc hg hm hv ha hn hdb he hpl) fun _ _ _ w => call_ok hd w

/-! ### subscripts, slices -/
theorem de_ix {r : R2} {o : D → D → Option D} {x y : OX} (hr : IxR X r) (hd : OpD X.K r o) (ha : DO X p a x) (hb : DO X q b y) (hs : PlainIx b) : DE X (p && q) (.Subscript a b pos) (eOp2 o x y) :=
  PE.imp (pe_ix hr ha hb hs) fun _ _ _ w => two_ok hd w
abbrev PX := Env → Option (Option Int × Env)
def tP (K : PySem.W.Frag) (p : Bool) (ρ : PX) : TO := fun σ H Q => ∃ E S k E', RepE K H E σ S ∧ ρ E = some (k, E') ∧
  ∀ H' S', Stp K σ (tot S) H E' S' H' → (p = true → Same H H') → Q k H'
abbrev DP (X : Cx) (p : Bool) (e : Option Expr) (ρ : PX) : Prop := PO X e (tP X.K p ρ)
theorem PO.imp {e : Option Expr} {t t' : TO} (h : PO X e t) (i : ∀ σ H Q, t' σ H Q → t σ H Q) : PO X e t' := ⟨fun pins s σ H Q I w => h.run pins s σ H Q I (i σ H Q w)⟩
def pNo : PX := fun E => some (none, E)
def pE (x : EX) : PX := fun E => (x E).bind fun s => match s.1 with
  | .int i => some (some i, s.2)
  | _ => none
theorem dp_none : DP X true none pNo := PO.imp po_none fun σ H Q w => by
  obtain ⟨E, S, k, E', r0, w1, w⟩ := w
  cases w1
  exact w H S (Stp.refl r0) fun _ => Same.refl H
theorem dp_some {x : EX} (h : DE X p e x) : DP X p (some e) (pE x) := PO.imp (po_some h) fun σ H Q w => by
  obtain ⟨E, S, k, E', r0, w1, w⟩ := w
  simp only [pE, Option.bind_eq_some_iff] at w1
  obtain ⟨⟨d, E1⟩, e1, w1⟩ := w1
  cases d <;> simp at w1
  obtain ⟨rfl, rfl⟩ := w1
  exact ⟨E, S, _, _, r0, e1, fun v H1 S1 T1 s1 z1 o1 m1 => ⟨_, z1, w H1 S1 s1 m1⟩⟩
def eSl (o : D → Option Int → Option Int → Option D) (x : OX) (l u : PX) : EX := fun E => (x E).bind fun s => (l s.2).bind fun t => (u t.2).bind fun k => (rd s.1 k.2).bind fun d => (o d t.1 k.1).map fun d => (d, k.2)
theorem de_sl {r : V → Option Int → Option Int → Hp → VK → Prop} {o : D → Option Int → Option Int → Option D} {x : OX} {l u : PX} {lo hi : Option Expr} {sp : Pos} (hr : SlR X r) (hd : SlD X.K r o) (ha : DO X p1 a x) (hl : DP X p2 lo l) (hu : DP X p3 hi u) :
    DE X (p1 && p2 && p3) (.Subscript a (.Slice lo hi none sp) pos) (eSl o x l u) := by
  refine PE.imp (pe_slice hr ha hl hu) fun σ H Q w => ?_
  obtain ⟨E, S, d, E', r0, w1, w⟩ := w
  simp only [eSl, Option.bind_eq_some_iff, Option.map_eq_some_iff] at w1
  obtain ⟨⟨t1, E1⟩, e1, ⟨k1, E2⟩, e2, ⟨k2, E3⟩, e3, u1, ru1, d', eo, ee⟩ := w1
  injection ee with ee1 ee2
  subst ee1 ee2
  refine ⟨E, S, t1, E1, r0, e1, fun v1 H1 S1 T1 s1 z1 o1 m1 => ⟨E1, S1, k1, E2, s1.env, e2, fun H2 S2 s2 m2 => ⟨E2, S2, k2, E3, s2.env, e3, fun H3 S3 s3 m3 => ?_⟩⟩⟩
  have z2 := tk_step z1 o1 s2 s1.env.mu
  have z3 := tk_step z2 (o1.step s2 s1.env.mu) s3 s2.env.mu
  obtain ⟨T', z⟩ := z3.rd s3.env ru1
  exact hd H3 u1 v1 T' k1 k2 d' Q z eo (fin_of w ((s1.trans s2).trans s3) fun hp => by
    obtain ⟨h1, h2, h3⟩ := Bool.and3 hp
    exact ((m1 h1).trans (m2 h2)).trans (m3 h3))
end
end Dn
end
section
/-! Dn3: operations by trees. -/
namespace Dn
open PySem PySem.Spec L2

/-! ### trees as the library's data -/
mutual
def D.py : D → PyData
  | .non => .none
  | .bl b => .bool b
  | .int i => .int i
  | .str x => .str x
  | .tup xs => .tuple (D.pys xs)
  | .lst xs => .list (D.pys xs)
  | .frz xs => .list (D.pys xs)
  | .dcK _ => .dict []
  | .dcT _ => .dict []
def D.pys : List D → List PyData
  | [] => []
  | x :: r => x.py :: D.pys r
end
theorem D.pys_map : ∀ xs : List D, D.pys xs = xs.map D.py
  | [] => by simp [D.pys]
  | x :: r => by simp [D.pys, D.pys_map r]
section
variable {K : PySem.W.Frag} {H : Hp}
mutual
theorem Rep.dp : ∀ {d : D} {v : V} {T : AS}, Rep K H d v T → PyData.canLay0 d.py = true → Dp K H v d.py
  | .non, v, _, h, _ => by
    have h : v = .non := h
    subst h; simp only [D.py]; exact .non
  | .bl b, v, _, h, _ => by
    have h : v = .bl b := h
    subst h; simp only [D.py]; exact .bl b
  | .int i, v, _, h, _ => by
    have h : v = .int i := h
    subst h; simp only [D.py]; exact .int i
  | .str x, v, _, h, _ => by
    have h : v = .str x := h
    subst h; simp only [D.py]; exact .str x
  | .tup ds, _, _, h, c => by
    obtain ⟨a, xs, e, q, r⟩ := h
    subst e
    simp only [D.py] at c ⊢
    exact .tup q.seq (RepL.dp r (by simpa [PyData.canLay0] using c))
  | .lst ds, _, _, h, c => by
    obtain ⟨a, xs, T0, e, q, _, _, _, r⟩ := h
    subst e
    simp only [D.py] at c ⊢
    exact .lst (SqL.of q) (RepL.dp r (by simpa [PyData.canLay0] using c))
  | .frz ds, _, _, h, c => by
    obtain ⟨a, xs, e, q, r⟩ := h
    subst e
    simp only [D.py] at c ⊢
    exact .lst q.seq (RepL.dp r (by simpa [PyData.canLay0] using c))
  | .dcK _, _, _, _, c => by simp [D.py, PyData.canLay0] at c
  | .dcT _, _, _, _, c => by simp [D.py, PyData.canLay0] at c
theorem RepL.dp : ∀ {ds : List D} {vs : List V} {T : AS}, RepL K H ds vs T → PyData.canLayAll0 (D.pys ds) = true → DpAll K H vs (D.pys ds)
  | [], vs, _, h, _ => by
    have h : vs = [] := h
    subst h; simp only [D.pys]; exact .nil
  | d :: ds, _, _, h, c => by
    obtain ⟨v, vs, T1, T2, e, h1, h2, _⟩ := h
    subst e
    simp only [D.pys, PyData.canLayAll0, Bool.and_eq_true] at c ⊢
    exact .cons (h1.dp c.1) (RepL.dp h2 c.2)
end
end

/-! ### ints -/
def intD (f : Int → Int → Int) : D → D → Option D
  | .int i, .int j => some (.int (f i j))
  | _, _ => none
section
variable {K : PySem.W.Frag}
/-- what an int's tree says of its value -/
theorem rep_int {H : Hp} {i : Int} {v : V} {T : AS} (h : Rep K H (.int i) v T) : v = .int i := h
theorem rep_bl {H : Hp} {b : Bool} {v : V} {T : AS} (h : Rep K H (.bl b) v T) : v = .bl b := h
theorem rep_str {H : Hp} {b : Str} {v : V} {T : AS} (h : Rep K H (.str b) v T) : v = .str b := h
theorem opd_I0 {g : Int → Int → Int} {o : D → D → Option D} (h : ∀ x y d, o x y = some d → ∃ i j, x = .int i ∧ y = .int j ∧ d = .int (g i j)) : OpD K (rI0 fun i j => .int (g i j)) o := by
  intro H d1 v1 T1 d2 v2 T2 d Q r1 r2 e f
  obtain ⟨i, j, rfl, rfl, rfl⟩ := h _ _ _ e
  exact ⟨i, j, r1, r2, f.scal rfl⟩
theorem opd_IC {g : Int → Int → Int} {C : Int → Int → Prop} {o : D → D → Option D} (h : ∀ x y d, o x y = some d → ∃ i j, x = .int i ∧ y = .int j ∧ C i j ∧ d = .int (g i j)) : OpD K (rI C fun i j => .int (g i j)) o := by
  intro H d1 v1 T1 d2 v2 T2 d Q r1 r2 e f
  obtain ⟨i, j, rfl, rfl, hc, rfl⟩ := h _ _ _ e
  exact ⟨i, j, r1, r2, hc, f.scal rfl⟩
theorem opd_B0 {g : Int → Int → Bool} {o : D → D → Option D} (h : ∀ x y d, o x y = some d → ∃ i j, x = .int i ∧ y = .int j ∧ d = .bl (g i j)) : OpD K (rI0 fun i j => .bl (g i j)) o := by
  intro H d1 v1 T1 d2 v2 T2 d Q r1 r2 e f
  obtain ⟨i, j, rfl, rfl, rfl⟩ := h _ _ _ e
  exact ⟨i, j, r1, r2, f.scal rfl⟩
theorem OpD.or {r r' : R2} {o o' : D → D → Option D} (h : OpD K r o) (h' : OpD K r' o') : OpD K (fun x y H Q => r x y H Q ∨ r' x y H Q) (fun x y => (o x y).orElse fun _ => o' x y) := by
  intro H d1 v1 T1 d2 v2 T2 d Q r1 r2 e f
  have e : ((o d1 d2).orElse fun _ => o' d1 d2) = some d := e
  cases q : o d1 d2 with
  | some z =>
    rw [q] at e
    have e : some z = some d := e
    cases e
    exact .inl (h H d1 v1 T1 d2 v2 T2 _ Q r1 r2 q f)
  | none =>
    rw [q] at e
    exact .inr (h' H d1 v1 T1 d2 v2 T2 d Q r1 r2 e f)
/-- another function that says no more -/
theorem OpD.to {r : R2} {o o' : D → D → Option D} (h : OpD K r o) (e : ∀ x y d, o' x y = some d → o x y = some d) : OpD K r o' := fun H d1 v1 T1 d2 v2 T2 d Q r1 r2 q f => h H d1 v1 T1 d2 v2 T2 d Q r1 r2 (e _ _ _ q) f
end

/-! ### a + b -/
def addD : D → D → Option D
  | .int i, .int j => some (.int (i + j))
  | .str x, .str y => if x.length + y.length ≤ 100000 then some (.str (x ++ y)) else none
  | .tup xs, .tup ys => if xs.length + ys.length ≤ 100000 ∧ D.imms xs = true ∧ D.imms ys = true then some (.tup (xs ++ ys)) else none
  | .lst xs, .lst ys => if xs.length + ys.length ≤ 100000 ∧ D.imms xs = true ∧ D.imms ys = true then some (.lst (xs ++ ys)) else none
  | _, _ => none
theorem line5 {n : Nat} (h : n ≤ 100000) : n ≤ sizeLine := Nat.le_trans h (by decide)
section
variable {K : PySem.W.Frag} {H : Hp}
theorem RepL.app : ∀ {xs ys : List D} {vs ws : List V}, RepL K H xs vs no → RepL K H ys ws no → RepL K H (xs ++ ys) (vs ++ ws) no
  | [], _, vs, _, h, q => by
    have h : vs = [] := h
    subst h; exact q
  | d :: ds, _, _, _, h, q => by
    obtain ⟨v, vs, T1, T2, e, h1, h2, s1, s2, dj⟩ := h
    subst e
    exact ⟨v, _, no, no, rfl, h1.sub s1, RepL.app (h2.sub s2) q, no_sub, no_sub, Disj.no_l⟩
theorem imms_app : ∀ {xs ys : List D}, D.imms (xs ++ ys) = (D.imms xs && D.imms ys)
  | [], _ => by simp [D.imms]
  | x :: r, ys => by simp [D.imms, imms_app (xs := r), Bool.and_assoc]
/-- a new tuple, a new list -/
theorem Fin.tup {d : List D} {vs : List V} {Q : VK} (f : Fin K H (.tup d) Q) (r : RepL K H d vs no) {q : Addr} {us : List Value} (hq : H q = none) : Q (.ref q) (upd H q (bT us vs)) :=
  f _ _ no ⟨q, vs, rfl, .inl ⟨us, upd_same⟩, r.frm (S := no) (Same.frm (Same.upd hq)) Mu.nil Disj.no_r⟩ (Same.upd hq) (fun _ h => h.elim) Mu.nil
theorem Fin.lst {d : List D} {vs : List V} {Q : VK} (f : Fin K H (.lst d) Q) (r : RepL K H d vs no) {q : Addr} (hq : H q = none) : Q (.ref q) (upd H q (.lst vs)) :=
  f _ _ (fun b => b = q) ⟨q, vs, no, rfl, upd_same, rfl, fun z => z, no_sub, r.frm (S := no) (Same.frm (Same.upd hq)) Mu.nil Disj.no_r⟩ (Same.upd hq) (fun a z => by
    have z : a = q := z
    rw [z]; exact hq) fun a z => by
    have z : a = q := z
    rw [z]; exact ⟨_, upd_same, rfl⟩
end
/-- t + u -/
def rCatB (K : PySem.W.Frag) : R2 := fun x y H Q => ∃ a b xs ys, x = .ref a ∧ y = .ref b ∧ SqT K H a xs ∧ SqT K H b ys ∧ xs.length + ys.length ≤ sizeLine ∧
  (xs = [] → Q (.ref b) H) ∧ (xs ≠ [] → ys = [] → Q (.ref a) H) ∧ (xs ≠ [] → ys ≠ [] → ∀ p us, H p = none → Q (.ref p) (upd H p (bT us (xs ++ ys))))
theorem op_catB {X : Cx} : OpR X (binaryOp .Add) (rCatB X.K) := by
  intro pins s σ H x y v u Q I rx ry h
  obtain ⟨a, b, xs, ys, rfl, rfl, ha, hb, hz, q0, q1, q2⟩ := h
  cases rx
  cases ry
  obtain ⟨its, r1, p1, _⟩ := I.tuple ha
  obtain ⟨jts, r2, p2, _⟩ := I.tuple hb
  by_cases hx : xs = []
  · subst hx
    cases r1
    exact cat_tup0 p1 p2 ⟨.ref b, H, I, rfl, q0 rfl⟩
  · refine HT.cat_tup p1 p2 (fun z => hx (r1.nil_iff.mp z)) (fun z => ⟨.ref a, H, I, rfl, q1 hx (r2.nil_iff.mp z)⟩) (fun z => ?_) (by rw [← r1.length, ← r2.length]; exact hz)
    refine ⟨.ref s.heap.objs.size, _, I.laid (t' := s.toks) (o := bT (its ++ jts) (xs ++ ys)) (fun b ob q => Heap.get?_push_of_some _ q) (Nat.le_refl _) ?_, rfl, q2 hx (fun w => z (r2.nil_iff.mpr w)) _ _ (I.hok.fresh (Nat.le_refl _))⟩
    exact bT_ok (Heap.get?_push_size _ rfl) (r1.append r2) (by rw [List.length_append]; exact hz)
def rAddX (K : PySem.W.Frag) : R2 := fun x y H Q => (rI0 fun i j => .int (i + j)) x y H Q ∨ (∃ i j, x = .str i ∧ y = .str j ∧ i.length + j.length ≤ sizeLine ∧ Q (.str (i ++ j)) H) ∨ rCatB K x y H Q ∨ rCat x y H Q
theorem op_addX {X : Cx} : OpR X (binaryOp .Add) (rAddX X.K) := op_add.or (op_add_str.or (op_catB.or op_cat))
theorem opd_add {K : PySem.W.Frag} : OpD K (rAddX K) addD := by
  intro H d1 v1 T1 d2 v2 T2 d Q r1 r2 e f
  unfold addD at e
  split at e
  · cases e
    exact .inl ⟨_, _, r1, r2, f.scal rfl⟩
  · split at e
    · rename_i hl
      cases e
      exact .inr (.inl ⟨_, _, r1, r2, line5 hl, f.scal rfl⟩)
    · cases e
  · rename_i xs ys
    split at e
    · rename_i hl
      cases e
      obtain ⟨a, vs, rfl, q1, l1⟩ := r1
      obtain ⟨b, ws, rfl, q2, l2⟩ := r2
      have m1 := l1.imm hl.2.1
      have m2 := l2.imm hl.2.2
      have ap := RepL.app m1 m2
      refine .inr (.inr (.inl ⟨a, b, vs, ws, rfl, rfl, q1.seq, q2.seq, by rw [l1.length, l2.length]; exact line5 hl.1, fun z => ?_, fun _ z => ?_, fun _ _ p us hp => f.tup ap hp⟩))
      · subst z
        exact f.scal ⟨b, ws, rfl, q2, ap⟩
      · subst z
        rw [List.append_nil] at ap
        exact f.scal ⟨a, vs, rfl, q1, ap⟩
    · cases e
  · split at e
    · rename_i hl
      cases e
      obtain ⟨a, vs, S1, rfl, q1, _, _, _, l1⟩ := r1
      obtain ⟨b, ws, S2, rfl, q2, _, _, _, l2⟩ := r2
      exact .inr (.inr (.inr ⟨a, b, vs, ws, rfl, rfl, q1, q2, by rw [l1.length, l2.length]; exact line5 hl.1, fun p hp => f.lst (RepL.app (l1.imm hl.2.1) (l2.imm hl.2.2)) hp⟩))
    · cases e
  · cases e

/-! ### a - b, a * b, a // b, a % b, a ** b, -a -/
def subD : D → D → Option D := intD fun i j => i - j
theorem opd_sub {K : PySem.W.Frag} : OpD K (rI0 fun i j => .int (i - j)) subD := opd_I0 fun x y d e => by
  unfold subD intD at e
  split at e
  · cases e; exact ⟨_, _, rfl, rfl, rfl⟩
  · cases e
def small64 (i : Int) : Bool := decide (-18446744073709551616 < i ∧ i < 18446744073709551616)
/-- xs * k -/
def repD (xs : List D) (k : Int) : List D := (List.replicate k.toNat xs).flatten
def mulD : D → D → Option D
  | .int i, .int j => if (small64 i || small64 j) = true then some (.int (i * j)) else none
  | .lst xs, .int k => if 0 ≤ k ∧ k ≤ 1000 ∧ xs.length ≤ 1000 ∧ D.imms xs = true then some (.lst (repD xs k)) else none
  | .tup xs, .int k => if 2 ≤ k ∧ k ≤ 1000 ∧ xs.length ≤ 1000 ∧ xs ≠ [] ∧ D.imms xs = true then some (.tup (repD xs k)) else none
  | _, _ => none
/-- t * k -/
def rRepB (K : PySem.W.Frag) : R2 := fun x y H Q => ∃ l k xs, x = .ref l ∧ y = .int k ∧ SqT K H l xs ∧ xs ≠ [] ∧ 2 ≤ k ∧ k ≤ 1000 ∧ xs.length ≤ 1000 ∧ ∀ p us, H p = none → Q (.ref p) (upd H p (bT us (List.replicate k.toNat xs).flatten))
theorem op_repB {X : Cx} : OpR X (binaryOp .Mult) (rRepB X.K) := by
  intro pins s σ H x y v u Q I rx ry h
  obtain ⟨l, k, xs, rfl, rfl, hT, hne, h1, h2, hz, q⟩ := h
  cases rx
  obtain ⟨t, rfl⟩ := ry
  obtain ⟨its, r, ⟨⟨cls, dd, data, sl⟩, ho, hc, n, hd⟩, hs⟩ := I.tuple hT
  simp only at hc hd
  subst hc hd
  have hle : its.length = xs.length := r.length.symm
  have hi : its.toArray.isEmpty = false := by
    cases its with
    | nil => exact absurd (List.eq_nil_of_length_eq_zero hle.symm) hne
    | cons a b => rfl
  have hsz0 : its.toArray.size = xs.length := by rw [List.size_toArray, hle]
  have hb : ((its.toArray.size : Nat) : Int) * k ≤ 1000000 := by
    rw [hsz0]
    have z : ((xs.length : Nat) : Int) * k ≤ 1000 * k := Int.mul_le_mul_of_nonneg_right (by omega) (by omega)
    omega
  have hm : k.toNat * xs.length ≤ 1000 * 1000 := Nat.mul_le_mul (by omega) hz
  have fl : (List.replicate k.toNat its).flatten.length ≤ sizeLine := by rw [PyProof.Rows.lm_len_rep_flat, hle, sizeLine_eq]; omega
  have c0 : (decide (k < -(2 ^ 63)) || decide (k ≥ 2 ^ 63)) = false := by rw [decide_eq_false (by omega), decide_eq_false (by omega)] <;> rfl
  have c1 : (its.toArray.isEmpty || k == 1) = false := by rw [hi, Bool.false_or]; exact beq_eq_false_iff_ne.mpr (by omega)
  have c2 : (decide (k ≤ 0) || its.toArray.isEmpty) = false := by rw [hi, Bool.or_false]; exact decide_eq_false (by omega)
  have c4 : Builtin.Tuple.tupleTooMany (((its.toArray.size : Nat) : Int) * k) = false := by unfold Builtin.Tuple.tupleTooMany; rw [sizeLine_eq]; exact decide_eq_false (by omega)
  have M := tuple_mulW l its.toArray n dd sl k t c0 c1 c2 (by omega) c4 (by rw [size_rep, List.size_toArray]; exact fl)
  refine wpAny_binaryOp_repeat_ref (T := "tuple") (U := "int") (by decide) ⟨_, ho, rfl⟩ (fun s' => typeIs_int s' k t) noFill_tuple_mul F.fills_int_mul F.slot_int_rmul repeat_tuple F.slot_int_index.lookup
    (call_meets F.slot_int_rmul (typeIs_int s k t) F.entry_int_rmul (F.args_int_rmul_2 _ _) (int_rmul_tuple k t l its.toArray n dd sl) ⟨ho, rfl, ⟨_, ho, rfl⟩, call_meets F.slot_tuple_mul ⟨_, ho, rfl⟩ F.entry_tuple_mul (F.args_tuple_mul_2 _ _) M ⟨ho, ?_⟩⟩)
  rw [size_rep]
  refine ⟨.ref s.heap.objs.size, _, I.laid (t' := s.toks) (o := bT (List.replicate k.toNat its).flatten (List.replicate k.toNat xs).flatten) (fun b ob q => Heap.get?_push_of_some _ q) (Nat.le_refl _) ?_, rfl, q _ _ (I.hok.fresh (Nat.le_refl _))⟩
  exact bT_ok (Heap.get?_push_size _ rfl) (r.rep k.toNat) (by rw [PyProof.Rows.lm_len_rep_flat, sizeLine_eq]; omega)
def rMulX (K : PySem.W.Frag) : R2 := fun x y H Q => (rI CMul fun i j => .int (i * j)) x y H Q ∨ rRep x y H Q ∨ rRepB K x y H Q
theorem op_mulX {X : Cx} : OpR X (binaryOp .Mult) (rMulX X.K) := op_mul.or (op_rep.or op_repB)
theorem small64_ok {i : Int} (h : small64 i = true) : -(2 ^ 64) < i ∧ i < 2 ^ 64 := by
  have h := of_decide_eq_true h
  exact ⟨by omega, by omega⟩
theorem RepL.rep {K : PySem.W.Frag} {H : Hp} {xs : List D} {vs : List V} (h : RepL K H xs vs no) : ∀ n : Nat, RepL K H (List.replicate n xs).flatten (List.replicate n vs).flatten no
  | 0 => rfl
  | n + 1 => by
    rw [List.replicate_succ, List.flatten_cons, List.replicate_succ, List.flatten_cons]
    exact RepL.app h (RepL.rep h n)
theorem opd_mul {K : PySem.W.Frag} : OpD K (rMulX K) mulD := by
  intro H d1 v1 T1 d2 v2 T2 d Q r1 r2 e f
  unfold mulD at e
  split at e
  · split at e
    · rename_i hs
      cases e
      rw [Bool.or_eq_true] at hs
      exact .inl ⟨_, _, r1, r2, hs.elim (fun z => .inl (small64_ok z)) (fun z => .inr (small64_ok z)), f.scal rfl⟩
    · cases e
  · split at e
    · rename_i xs k hs
      cases e
      obtain ⟨a, vs, S1, rfl, q1, _, _, _, l1⟩ := r1
      have hl := l1.length
      have hb : vs.length * k.toNat ≤ 1000 * 1000 := Nat.mul_le_mul (by rw [hl]; exact hs.2.2.1) (by omega)
      exact .inr (.inl ⟨a, k, vs, rfl, r2, q1, by omega, by omega, Nat.le_trans hb (by decide), fun p hp => f.lst ((l1.imm hs.2.2.2).rep _) hp⟩)
    · cases e
  · split at e
    · rename_i xs k hs
      cases e
      obtain ⟨a, vs, rfl, q1, l1⟩ := r1
      have hl := l1.length
      exact .inr (.inr ⟨a, k, vs, rfl, r2, q1.seq, fun z => hs.2.2.2.1 (by
        subst z
        exact List.eq_nil_of_length_eq_zero hl.symm), hs.1, hs.2.1, by rw [hl]; exact hs.2.2.1, fun p us hp => f.tup ((l1.imm hs.2.2.2.2).rep _) hp⟩)
    · cases e
  · cases e
def fdivD : D → D → Option D
  | .int i, .int j => if 0 < j ∧ j < 1073741824 then some (.int (i / j)) else none
  | _, _ => none
def modD : D → D → Option D
  | .int i, .int j => if 0 < j then some (.int (i % j)) else none
  | _, _ => none
def powD : D → D → Option D
  | .int i, .int j => if 0 ≤ j ∧ j ≤ 100 ∧ i.natAbs < 2 ^ 1000 then some (.int (i ^ j.toNat)) else none
  | _, _ => none
theorem opd_fdiv {K : PySem.W.Frag} : OpD K (rI CDiv fun i j => .int (i / j)) fdivD := opd_IC fun x y d e => by
  unfold fdivD at e
  split at e
  · split at e
    · cases e; exact ⟨_, _, rfl, rfl, by assumption, rfl⟩
    · cases e
  · cases e
theorem opd_mod {K : PySem.W.Frag} : OpD K (rI (fun _ j => 0 < j) fun i j => .int (i % j)) modD := opd_IC fun x y d e => by
  unfold modD at e
  split at e
  · split at e
    · cases e; exact ⟨_, _, rfl, rfl, by assumption, rfl⟩
    · cases e
  · cases e
def CPowX (i j : Int) : Prop := 0 ≤ j ∧ (Builtin.Int.intBits i : Int) * j ≤ 2 ^ 27
theorem op_powX {X : Cx} : OpR X (binaryOp .Pow) (rI CPowX fun i j => .int (i ^ j.toNat)) := opI fun _ _ _ _ _ _ _ hc q => PyProof.Rows.pow_int hc.1 hc.2 q
theorem opd_pow {K : PySem.W.Frag} : OpD K (rI CPowX fun i j => .int (i ^ j.toNat)) powD := opd_IC fun x y d e => by
  unfold powD at e
  split at e
  · split at e
    · rename_i i j hs
      cases e
      refine ⟨_, _, rfl, rfl, ⟨hs.1, ?_⟩, rfl⟩
      have hb : Builtin.Int.intBits i ≤ 1001 := by
        have h1 := PySem.Flt.log2_lt_of (by decide : 0 < 1000) hs.2.2
        unfold Builtin.Int.intBits
        split <;> omega
      have h2 : (Builtin.Int.intBits i : Int) * j ≤ 1001 * 100 := Int.mul_le_mul (by omega) hs.2.1 hs.1 (by omega)
      omega
    · cases e
  · cases e
def negD : D → Option D
  | .int i => some (.int (-i))
  | _ => none
theorem und_neg {K : PySem.W.Frag} : UnD K (rU fun i => .int (-i)) negD := by
  intro H d1 v1 T1 d Q r1 e f
  unfold negD at e
  split at e
  · cases e
    exact ⟨_, r1, f.scal rfl⟩
  · cases e

/-! ### order -/
def intsD : List D → Option (List Int)
  | [] => some []
  | .int i :: r => (intsD r).map fun ns => i :: ns
  | _ :: _ => none
theorem intsD_ok {K : PySem.W.Frag} {H : Hp} : ∀ {xs : List D} {ns : List Int} {vs : List V} {T : AS}, intsD xs = some ns → RepL K H xs vs T → vs = ns.map V.int
  | [], _, vs, _, e, h => by
    cases e
    exact h
  | .int i :: r, _, _, _, e, h => by
    simp only [intsD, Option.map_eq_some_iff] at e
    obtain ⟨ns, e1, rfl⟩ := e
    obtain ⟨v, vs, T1, T2, rfl, h1, h2, _⟩ := h
    have h1 : v = .int i := h1
    rw [h1, intsD_ok e1 h2, List.map_cons]
  | .non :: _, _, _, _, e, _ => by simp [intsD] at e
  | .bl _ :: _, _, _, _, e, _ => by simp [intsD] at e
  | .str _ :: _, _, _, _, e, _ => by simp [intsD] at e
  | .tup _ :: _, _, _, _, e, _ => by simp [intsD] at e
  | .lst _ :: _, _, _, _, e, _ => by simp [intsD] at e
  | .frz _ :: _, _, _, _, e, _ => by simp [intsD] at e
  | .dcK _ :: _, _, _, _, e, _ => by simp [intsD] at e
  | .dcT _ :: _, _, _, _, e, _ => by simp [intsD] at e
theorem intsD_map : ∀ ns : List Int, intsD (ns.map D.int) = some ns
  | [] => rfl
  | n :: r => by simp [intsD, intsD_map r]
theorem intsD_eq : ∀ {xs : List D} {ns : List Int}, intsD xs = some ns → xs = ns.map D.int
  | [], _, e => by cases e; rfl
  | .int i :: r, _, e => by
    simp only [intsD, Option.map_eq_some_iff] at e
    obtain ⟨ns, e1, rfl⟩ := e
    rw [intsD_eq e1, List.map_cons]
  | .non :: _, _, e => by simp [intsD] at e
  | .bl _ :: _, _, e => by simp [intsD] at e
  | .str _ :: _, _, e => by simp [intsD] at e
  | .tup _ :: _, _, e => by simp [intsD] at e
  | .lst _ :: _, _, e => by simp [intsD] at e
  | .frz _ :: _, _, e => by simp [intsD] at e
  | .dcK _ :: _, _, e => by simp [intsD] at e
  | .dcT _ :: _, _, e => by simp [intsD] at e
def ltD : D → D → Option D
  | .int i, .int j => some (.bl (decide (i < j)))
  | .tup xs, .tup ys => match intsD xs, intsD ys with
    | some ns, some ms => some (.bl (HT.lexLt ns ms))
    | _, _ => none
  | _, _ => none
def rLtX (K : PySem.W.Frag) : R2 := fun x y H Q => (rI0 fun i j => .bl (decide (i < j))) x y H Q ∨ rLtT K x y H Q
theorem op_ltX {X : Cx} (hu : X.A.units < cLine) : OpR X (compareOp .Lt) (rLtX X.K) := op_lt.or (op_ltT hu)
theorem opd_lt {K : PySem.W.Frag} : OpD K (rLtX K) ltD := by
  intro H d1 v1 T1 d2 v2 T2 d Q r1 r2 e f
  unfold ltD at e
  split at e
  · cases e
    exact .inl ⟨_, _, r1, r2, f.scal rfl⟩
  · split at e
    · rename_i e1 e2
      cases e
      obtain ⟨a, vs, rfl, q1, l1⟩ := r1
      obtain ⟨b, ws, rfl, q2, l2⟩ := r2
      exact .inr ⟨a, b, _, _, rfl, rfl, intsD_ok e1 l1 ▸ q1.seq, intsD_ok e2 l2 ▸ q2.seq, f.scal rfl⟩
    · cases e
  · cases e
def cmpI (g : Int → Int → Bool) : D → D → Option D
  | .int i, .int j => some (.bl (g i j))
  | _, _ => none
theorem opd_cmpI {K : PySem.W.Frag} {g : Int → Int → Bool} : OpD K (rI0 fun i j => .bl (g i j)) (cmpI g) := opd_B0 fun x y d e => by
  unfold cmpI at e
  split at e
  · cases e; exact ⟨_, _, rfl, rfl, rfl⟩
  · cases e
abbrev leD : D → D → Option D := cmpI fun i j => decide (i ≤ j)
abbrev gtD : D → D → Option D := cmpI fun i j => decide (j < i)
abbrev geD : D → D → Option D := cmpI fun i j => decide (j ≤ i)
theorem opd_le {K : PySem.W.Frag} : OpD K (rI0 fun i j => .bl (decide (i ≤ j))) leD := opd_cmpI
theorem opd_gt {K : PySem.W.Frag} : OpD K (rI0 fun i j => .bl (decide (j < i))) gtD := opd_cmpI
theorem opd_ge {K : PySem.W.Frag} : OpD K (rI0 fun i j => .bl (decide (j ≤ i))) geD := opd_cmpI

/-! ### ==, !=, in, not in, is -/
/-- what may be compared: no dict in it, at most 64 deep -/
def D.shp (d : D) : Bool := SeqAt.shaped d.py
def D.eqv (a b : D) : Bool := PyData.eqv a.py b.py
def eqD (a b : D) : Option D := if (a.shp && b.shp) = true then some (.bl (a.eqv b)) else none
def neD (a b : D) : Option D := if (a.shp && b.shp) = true then some (.bl (!a.eqv b)) else none
theorem opd_eq {K : PySem.W.Frag} : OpD K (rEqD K) eqD := by
  intro H d1 v1 T1 d2 v2 T2 d Q r1 r2 e f
  unfold eqD at e
  split at e
  · rename_i hs
    cases e
    rw [Bool.and_eq_true] at hs
    exact ⟨_, _, r1.dp (SeqAt.canLay_of_shaped hs.1), r2.dp (SeqAt.canLay_of_shaped hs.2), hs.1, hs.2, f.scal rfl⟩
  · cases e
theorem opd_ne {K : PySem.W.Frag} : OpD K (rNeD K) neD := by
  intro H d1 v1 T1 d2 v2 T2 d Q r1 r2 e f
  unfold neD at e
  split at e
  · rename_i hs
    cases e
    rw [Bool.and_eq_true] at hs
    exact ⟨_, _, r1.dp (SeqAt.canLay_of_shaped hs.1), r2.dp (SeqAt.canLay_of_shaped hs.2), hs.1, hs.2, f.scal rfl⟩
  · cases e
def rInT (K : PySem.W.Frag) (neg : Bool) : R2 := fun x y H Q => ∃ d ds, Dp K H x d ∧ Dp K H y (.tuple ds) ∧ SeqAt.shaped d = true ∧ SeqAt.shaped (.tuple ds) = true ∧ Q (.bl (if neg then !ds.any fun z => PyData.eqv z d else ds.any fun z => PyData.eqv z d)) H
theorem op_inT {X : Cx} (hu : X.A.units + 65 < cLine) : OpR X (compareOp .In) (rInT X.K false) := by
  intro pins s σ H x y v u Q I rx ry h
  obtain ⟨d, ds, hd, he, sd, se, q⟩ := h
  obtain ⟨as, r1⟩ := Dp.reads I d x v hd rx
  obtain ⟨bs, r2⟩ := Dp.reads I (.tuple ds) y u he ry
  refine SeqAt.in_tuple_reads r2 r1 ?_ ?_ ?_ ⟨.bl _, H, I, rfl, q⟩
  · exact SeqAt.canLay_of_shaped se
  · exact SeqAt.canLay_of_shaped sd
  · exact PyProof.Rows.room_in_shaped sd hu
theorem op_notInT {X : Cx} (hu : X.A.units + 65 < cLine) : OpR X (compareOp .NotIn) (rInT X.K true) := by
  intro pins s σ H x y v u Q I rx ry h
  obtain ⟨d, ds, hd, he, sd, se, q⟩ := h
  obtain ⟨as, r1⟩ := Dp.reads I d x v hd rx
  obtain ⟨bs, r2⟩ := Dp.reads I (.tuple ds) y u he ry
  refine SeqAt.notIn_tuple_reads r2 r1 ?_ ?_ ?_ ⟨.bl _, H, I, rfl, q⟩
  · exact SeqAt.canLay_of_shaped se
  · exact SeqAt.canLay_of_shaped sd
  · exact PyProof.Rows.room_in_shaped sd hu
def D.has (x : D) (ys : List D) : Bool := ys.any fun y => y.eqv x
def inD (x c : D) : Option D := match c with
  | .tup ys => if (x.shp && c.shp) = true then some (.bl (x.has ys)) else none
  | .lst ys => if (x.shp && c.shp) = true then some (.bl (x.has ys)) else none
  | _ => none
def notInD (x c : D) : Option D := match c with
  | .tup ys => if (x.shp && c.shp) = true then some (.bl (!x.has ys)) else none
  | .lst ys => if (x.shp && c.shp) = true then some (.bl (!x.has ys)) else none
  | _ => none
theorem has_py (x : D) (ys : List D) : ((D.pys ys).any fun z => PyData.eqv z x.py) = x.has ys := by
  rw [D.pys_map, List.any_map]; rfl
theorem op_inX {X : Cx} (hu : X.A.units + 65 < cLine) : OpR X (compareOp .In) (fun x y H Q => rInD X.K x y H Q ∨ rInT X.K false x y H Q) := (op_inD hu).or (op_inT hu)
theorem op_notInX {X : Cx} (hu : X.A.units + 65 < cLine) : OpR X (compareOp .NotIn) (fun x y H Q => rNotInD X.K x y H Q ∨ rInT X.K true x y H Q) := (op_notInD hu).or (op_notInT hu)
theorem opd_in {K : PySem.W.Frag} : OpD K (fun x y H Q => rInD K x y H Q ∨ rInT K false x y H Q) inD := by
  intro H d1 v1 T1 d2 v2 T2 d Q r1 r2 e f
  unfold inD at e
  split at e
  · split at e
    · rename_i hs
      cases e
      rw [Bool.and_eq_true] at hs
      have c2 := r2.dp (SeqAt.canLay_of_shaped hs.2)
      refine .inr ⟨_, _, r1.dp (SeqAt.canLay_of_shaped hs.1), by simpa only [D.py] using c2, hs.1, by simpa only [D.shp, D.py] using hs.2, ?_⟩
      rw [has_py]
      exact f.scal rfl
    · cases e
  · split at e
    · rename_i hs
      cases e
      rw [Bool.and_eq_true] at hs
      have c2 := r2.dp (SeqAt.canLay_of_shaped hs.2)
      refine .inl ⟨_, _, r1.dp (SeqAt.canLay_of_shaped hs.1), by simpa only [D.py] using c2, hs.1, by simpa only [D.shp, D.py] using hs.2, ?_⟩
      rw [has_py]
      exact f.scal rfl
    · cases e
  · cases e
theorem opd_notIn {K : PySem.W.Frag} : OpD K (fun x y H Q => rNotInD K x y H Q ∨ rInT K true x y H Q) notInD := by
  intro H d1 v1 T1 d2 v2 T2 d Q r1 r2 e f
  unfold notInD at e
  split at e
  · split at e
    · rename_i hs
      cases e
      rw [Bool.and_eq_true] at hs
      have c2 := r2.dp (SeqAt.canLay_of_shaped hs.2)
      refine .inr ⟨_, _, r1.dp (SeqAt.canLay_of_shaped hs.1), by simpa only [D.py] using c2, hs.1, by simpa only [D.shp, D.py] using hs.2, ?_⟩
      rw [has_py]
      exact f.scal rfl
    · cases e
  · split at e
    · rename_i hs
      cases e
      rw [Bool.and_eq_true] at hs
      have c2 := r2.dp (SeqAt.canLay_of_shaped hs.2)
      refine .inl ⟨_, _, r1.dp (SeqAt.canLay_of_shaped hs.1), by simpa only [D.py] using c2, hs.1, by simpa only [D.shp, D.py] using hs.2, ?_⟩
      rw [has_py]
      exact f.scal rfl
    · cases e
  · cases e
def D.isN : D → Bool
  | .non => true
  | _ => false
/-- is None -/
def isND : D → D → Option D
  | x, .non => some (.bl x.isN)
  | _, _ => none
def isNotND : D → D → Option D
  | x, .non => some (.bl (!x.isN))
  | _, _ => none
theorem isN_ok {K : PySem.W.Frag} {H : Hp} {d : D} {v : V} {T : AS} (r : Rep K H d v T) : decide (v = .non) = d.isN := by
  cases d with
  | non =>
    have r : v = .non := r
    subst r; rfl
  | bl b =>
    have r : v = .bl b := r
    subst r; rfl
  | int i =>
    have r : v = .int i := r
    subst r; rfl
  | str i =>
    have r : v = .str i := r
    subst r; rfl
  | tup _ =>
    obtain ⟨a, xs, rfl, _⟩ := r
    rfl
  | lst _ =>
    obtain ⟨a, xs, T0, rfl, _⟩ := r
    rfl
  | dcK _ =>
    obtain ⟨a, xs, T0, rfl, _⟩ := r
    rfl
  | dcT _ =>
    obtain ⟨a, xs, T0, rfl, _⟩ := r
    rfl
  | frz _ =>
    obtain ⟨a, xs, rfl, _⟩ := r
    rfl
theorem opd_isN {K : PySem.W.Frag} : OpD K (fun x y H Q => y = .non ∧ Q (.bl (decide (x = .non))) H) isND := by
  intro H d1 v1 T1 d2 v2 T2 d Q r1 r2 e f
  unfold isND at e
  split at e
  · cases e
    refine ⟨r2, ?_⟩
    rw [isN_ok r1]
    exact f.scal rfl
  · cases e
theorem opd_isNotN {K : PySem.W.Frag} : OpD K (fun x y H Q => y = .non ∧ Q (.bl (!decide (x = .non))) H) isNotND := by
  intro H d1 v1 T1 d2 v2 T2 d Q r1 r2 e f
  unfold isNotND at e
  split at e
  · cases e
    refine ⟨r2, ?_⟩
    rw [isN_ok r1]
    exact f.scal rfl
  · cases e
/-- is True, is not True, .. of truth values -/
def isBD : D → D → Option D
  | .bl a, .bl b => some (.bl (decide (a = b)))
  | _, _ => none
def isNotBD : D → D → Option D
  | .bl a, .bl b => some (.bl (!decide (a = b)))
  | _, _ => none
theorem opd_isB {K : PySem.W.Frag} : OpD K rIsB isBD := by
  intro H d1 v1 T1 d2 v2 T2 d Q r1 r2 e f
  unfold isBD at e
  split at e
  · cases e
    exact ⟨_, _, r1, r2, f.scal rfl⟩
  · cases e
theorem opd_isNotB {K : PySem.W.Frag} : OpD K rNotB isNotBD := by
  intro H d1 v1 T1 d2 v2 T2 d Q r1 r2 e f
  unfold isNotBD at e
  split at e
  · cases e
    exact ⟨_, _, r1, r2, f.scal rfl⟩
  · cases e

/-! ### subscripts, slices -/
def ixD : D → D → Option D
  | .tup xs, .int i => match atI xs i with
    | some d => if d.imm = true then some d else none
    | none => none
  | .lst xs, .int i => match atI xs i with
    | some d => if d.imm = true then some d else none
    | none => none
  | .frz xs, .int i => match atI xs i with
    | some d => if d.imm = true then some d else none
    | none => none
  | .str x, .int i => if x.length ≤ 100000 then (atI x.cps.toList i).map fun c => .str ⟨#[c]⟩ else none
  | _, _ => none
section
variable {K : PySem.W.Frag} {H : Hp}
theorem RepL.get : ∀ {ds : List D} {vs : List V} {T : AS} {i : Nat} {d : D}, RepL K H ds vs T → ds[i]? = some d → ∃ v T', vs[i]? = some v ∧ Rep K H d v T' ∧ Sub T' T
  | [], _, _, _, _, _, e => by simp at e
  | d :: ds, _, _, 0, _, h, e => by
    obtain ⟨v, vs, T1, T2, rfl, h1, h2, s1, s2, dj⟩ := h
    simp only [List.getElem?_cons_zero, Option.some.injEq] at e
    subst e
    exact ⟨v, T1, rfl, h1, s1⟩
  | d :: ds, _, _, i + 1, _, h, e => by
    obtain ⟨v, vs, T1, T2, rfl, h1, h2, s1, s2, dj⟩ := h
    simp only [List.getElem?_cons_succ] at e
    obtain ⟨w, T', e1, e2, e3⟩ := RepL.get h2 e
    exact ⟨w, T', by simpa using e1, e2, fun a z => s2 a (e3 a z)⟩
theorem RepL.atI {ds : List D} {vs : List V} {T : AS} {i : Int} {d : D} (h : RepL K H ds vs T) (e : L2.atI ds i = some d) : ∃ v T', L2.atI vs i = some v ∧ Rep K H d v T' := by
  unfold L2.atI at e ⊢
  rw [h.length]
  cases q : ixN ds.length i with
  | none => rw [q] at e; cases e
  | some j =>
    rw [q] at e
    obtain ⟨v, T', e1, e2, _⟩ := h.get (i := j) (d := d) e
    exact ⟨v, T', e1, e2⟩
end
theorem opd_ix {K : PySem.W.Frag} : OpD K (rIx K) ixD := by
  intro H d1 v1 T1 d2 v2 T2 d Q r1 r2 e f
  unfold ixD at e
  split at e
  · split at e
    · rename_i e1
      split at e
      · rename_i hi
        cases e
        obtain ⟨a, vs, rfl, q1, l1⟩ := r1
        obtain ⟨v, T', e2, z⟩ := l1.atI e1
        exact .inr (.inl ⟨a, vs, _, v, rfl, r2, q1.seq, e2, f.scal (z.imm hi)⟩)
      · cases e
    · cases e
  · split at e
    · rename_i e1
      split at e
      · rename_i hi
        cases e
        obtain ⟨a, vs, S1, rfl, q1, _, _, _, l1⟩ := r1
        obtain ⟨v, T', e2, z⟩ := l1.atI e1
        exact .inl ⟨a, vs, _, v, rfl, r2, SqL.of q1, e2, f.scal (z.imm hi)⟩
      · cases e
    · cases e
  · split at e
    · rename_i e1
      split at e
      · rename_i hi
        cases e
        obtain ⟨a, vs, rfl, q1, l1⟩ := r1
        obtain ⟨v, T', e2, z⟩ := l1.atI e1
        exact .inl ⟨a, vs, _, v, rfl, r2, q1.seq, e2, f.scal (z.imm hi)⟩
      · cases e
    · cases e
  · split at e
    · rename_i hl
      simp only [Option.map_eq_some_iff] at e
      obtain ⟨c, e1, rfl⟩ := e
      exact .inr (.inr ⟨_, _, c, r1, r2, line5 hl, e1, f.scal rfl⟩)
    · cases e
  · cases e
/-- xs[lo:hi] -/
def cutD {α : Type} (xs : List α) (lo hi : Option Int) : List α := (xs.drop (HT.sIx xs.length 0 lo)).take (HT.sIx xs.length xs.length hi - HT.sIx xs.length 0 lo)
def slD : D → Option Int → Option Int → Option D
  | .tup xs, lo, hi => if D.imms xs = true then some (.tup (cutD xs lo hi)) else none
  | .lst xs, lo, hi => if D.imms xs = true then some (.lst (cutD xs lo hi)) else none
  | .frz xs, lo, hi => if D.imms xs = true then some (.lst (cutD xs lo hi)) else none
  | .str x, lo, hi => if x.length ≤ 100000 then some (.str (cutS x lo hi)) else none
  | _, _, _ => none
section
variable {K : PySem.W.Frag} {H : Hp}
theorem RepL.drop : ∀ {ds : List D} {vs : List V} {T : AS} (n : Nat), RepL K H ds vs T → RepL K H (ds.drop n) (vs.drop n) T
  | ds, vs, _, 0, h => h
  | [], vs, _, n + 1, h => by
    have h : vs = [] := h
    subst h; rfl
  | d :: ds, _, _, n + 1, h => by
    obtain ⟨v, vs, T1, T2, rfl, h1, h2, s1, s2, dj⟩ := h
    exact (RepL.drop n h2).sub s2
theorem RepL.take : ∀ {ds : List D} {vs : List V} {T : AS} (n : Nat), RepL K H ds vs T → RepL K H (ds.take n) (vs.take n) T
  | ds, vs, _, 0, h => rfl
  | [], vs, _, n + 1, h => by
    have h : vs = [] := h
    subst h; rfl
  | d :: ds, _, _, n + 1, h => by
    obtain ⟨v, vs, T1, T2, rfl, h1, h2, s1, s2, dj⟩ := h
    exact ⟨v, _, T1, T2, rfl, h1, RepL.take n h2, s1, s2, dj⟩
theorem RepL.cut {ds : List D} {vs : List V} {T : AS} {lo hi : Option Int} (h : RepL K H ds vs T) : RepL K H (cutD ds lo hi) (cutV vs lo hi) T := by
  unfold cutD cutV
  rw [h.length]
  exact (h.drop _).take _
end
/-- t[lo:hi]: the whole of it is t itself -/
def rSlB (K : PySem.W.Frag) : V → Option Int → Option Int → Hp → VK → Prop := fun x lo hi H Q => ∃ a xs, x = .ref a ∧ SqT K H a xs ∧
  (HT.sIx xs.length 0 lo = 0 ∧ HT.sIx xs.length xs.length hi = xs.length → Q (.ref a) H) ∧ (¬ (HT.sIx xs.length 0 lo = 0 ∧ HT.sIx xs.length xs.length hi = xs.length) → ∀ p us, H p = none → Q (.ref p) (upd H p (bT us (cutV xs lo hi))))
theorem sl_B {X : Cx} : SlR X (rSlB X.K) := by
  intro pins s σ H x v vl vu lo hi sl Q I rx hs pl pu h
  obtain ⟨a, xs, rfl, hx, q1, q2⟩ := h
  by_cases hw : HT.sIx xs.length 0 lo = 0 ∧ HT.sIx xs.length xs.length hi = xs.length
  · exact sl_tupA pins s σ H _ v vl vu lo hi sl Q I rx hs pl pu ⟨a, xs, rfl, hx, q1, fun z => absurd hw z⟩
  · cases rx
    obtain ⟨its, r, ht, hz⟩ := I.tuple hx
    have hl : its.toArray.size = xs.length := by rw [List.size_toArray]; exact r.length.symm
    refine ⟨"tuple", _, PyProof.Rows.slot_tuple_getitem.lookup, ht.typeIs, HT.getItem_tuple_cut ht hs pl pu (by rw [hl]; exact hw) ?_ (by rw [hl]; exact hz)⟩
    rw [hl]
    refine ⟨.ref s.heap.objs.size, _, I.laid (t' := s.toks) (o := bT ((its.drop (HT.sIx xs.length 0 lo)).take (HT.sIx xs.length xs.length hi - HT.sIx xs.length 0 lo)) (cutV xs lo hi)) (fun b ob q => Heap.get?_push_of_some _ q) (Nat.le_refl _) ?_, rfl, q2 hw _ _ (I.hok.fresh (Nat.le_refl _))⟩
    exact bT_ok (Heap.get?_push_size _ rfl) ((r.drop _).take _) (Nat.le_trans (cutV_length xs lo hi) hz)
def rSlX (K : PySem.W.Frag) : V → Option Int → Option Int → Hp → VK → Prop := fun x lo hi H Q => rSlB K x lo hi H Q ∨ rSlL K x lo hi H Q ∨ rSlS x lo hi H Q
theorem sl_X {X : Cx} : SlR X (rSlX X.K) := sl_B.or (sl_list.or sl_str)
theorem sld_X {K : PySem.W.Frag} : SlD K (rSlX K) slD := by
  intro H d1 v1 T1 lo hi d Q r1 e f
  unfold slD at e
  split at e
  · split at e
    · rename_i him
      cases e
      obtain ⟨a, vs, rfl, q1, l1⟩ := r1
      have m1 := (l1.imm him).cut (lo := lo) (hi := hi)
      refine .inl ⟨a, vs, rfl, q1.seq, fun z => ?_, fun _ p us hp => f.tup m1 hp⟩
      have whole : cutV vs lo hi = vs := by
        unfold cutV
        rw [z.1, z.2, List.drop_zero, Nat.sub_zero, List.take_length]
      rw [whole] at m1
      exact f.scal ⟨a, vs, rfl, q1, m1⟩
    · cases e
  · split at e
    · rename_i him
      cases e
      obtain ⟨a, vs, S1, rfl, q1, _, _, _, l1⟩ := r1
      exact .inr (.inl ⟨a, vs, rfl, SqL.of q1, fun p hp => f.lst (l1.imm him).cut hp⟩)
    · cases e
  · split at e
    · rename_i him
      cases e
      obtain ⟨a, vs, rfl, q1, l1⟩ := r1
      exact .inr (.inl ⟨a, vs, rfl, q1.seq, fun p hp => f.lst (l1.imm him).cut hp⟩)
    · cases e
  · split at e
    · rename_i hl
      cases e
      exact .inr (.inr ⟨_, r1, line5 hl, f.scal rfl⟩)
    · cases e
  · cases e
end Dn
end
section
/-! Dn4: defs as functions over trees, their calls. -/
namespace Dn
open PySem PySem.Spec L2

/-- a def: the arguments, which of them are changed where they stand; its value, what those hold behind it -/
abbrev FN := List D → List Bool → Option (D × Env)
def pinOf (io : List Bool) (i : Nat) : Bool := io[i]?.getD false
def outs : List Bool → Env → Env
  | [], _ => []
  | _ :: r, [] => none :: outs r []
  | b :: r, e :: E => (if b = true then e else none) :: outs r E
def mkF (np n : Nat) (body : (Nat → Bool) → SX) : FN := fun ds io => if ds.length = np ∧ io.length = np then
    (body (pinOf io) (ds.map some ++ List.replicate (n - np) none)).bind fun s => match s.1 with
      | .rt d => some (d, outs io s.2)
      | .nx => some (.non, outs io s.2)
      | _ => none
  else none
theorem outs_length : ∀ (io : List Bool) (E : Env), (outs io E).length = io.length
  | [], _ => rfl
  | _ :: r, [] => by
    show (none :: outs r []).length = _
    rw [List.length_cons, List.length_cons, outs_length r []]
  | b :: r, e :: E => by
    show ((if b = true then e else none) :: outs r E).length = _
    rw [List.length_cons, List.length_cons, outs_length r E]
theorem outs_at : ∀ (io : List Bool) (E : Env) (i : Nat) (d : D), (outs io E)[i]? = some (some d) → io[i]? = some true ∧ E[i]? = some (some d)
  | [], _, _, _, h => by simp [outs] at h
  | _ :: r, [], 0, _, h => by simp [outs] at h
  | _ :: r, [], i + 1, d, h => by
    have h : (outs r [])[i]? = some (some d) := by simpa [outs] using h
    obtain ⟨_, q⟩ := outs_at r [] i d h
    simp at q
  | b :: r, e :: E, 0, d, h => by
    have q : (if b = true then e else none) = some d := by simpa [outs] using h
    by_cases hb : b = true
    · rw [if_pos hb] at q
      exact ⟨by rw [hb]; rfl, by rw [q]; rfl⟩
    · rw [if_neg hb] at q
      cases q
  | b :: r, e :: E, i + 1, d, h => by
    have h : (outs r E)[i]? = some (some d) := by simpa [outs] using h
    simpa using outs_at r E i d h

/-- the promise of a def that is F -/
def spF (K : PySem.W.Frag) (F : FN) : Sp := fun vs H Q _ => ∃ ds io S r E', F ds io = some (r, E') ∧ RepE K H (ds.map some) (vs.map some) S ∧
  ∀ v H' S' T, Stp K (vs.map some) (tot S) H E' S' H' → Rep K H' r v T → Ow (tot S) H S' H' T → Q v H'

/-- a def keeps a promise, called where no repr is under way -/
structure FnG (P : Program) (w : World) (K : PySem.W.Frag) (mg : Str → Option Value) (base : Heap) (k : Nat) (f : Addr) (fd : FuncData) (ps : List Str) (sp : Sp) : Prop where
  len : ∀ vs H Q E, sp vs H Q E → vs.length = ps.length
  run : ∀ (A : Around) (fr : List PySem.Env) (s : Shared) (H : Hp) (args : Args) (us : List Value) (vs : List V) (Q : VK) (E : XK),
    Room k A → A.guards = some [] → Env0 P w K mg base A fr s H → BindsTo s fd args (ps.zip us) → Vals vs us → sp vs H Q E → codeAny (model P w) A (.call (.ref f) args) (CR CX0 fr P w H s Q E) s

section
variable {P : Program} {w : World} {K : PySem.W.Frag} {mg : Str → Option Value} {base : Heap} {f : Addr} {fd : FuncData}
theorem FnG.mono {j k : Nat} {ps : List Str} {sp : Sp} (F : FnG P w K mg base j f fd ps sp) (h : j ≤ k) : FnG P w K mg base k f fd ps sp :=
  ⟨F.len, fun A fr s H args us vs Q E room => F.run A fr s H args us vs Q E (room.mono h)⟩
/-- by its body -/
theorem FnG.of {x qual : Str} {params : Arguments} {body : List Stmt} {scope : Scope} {dvs : List V} {kws : List (Str × V)} {N ps : List Str} {k : Nat} {sp : Sp} (F : FunD K x qual params body scope dvs kws f fd) (sc : FnScope N ps scope)
    (len : ∀ vs H Q E, sp vs H Q E → vs.length = ps.length)
    (hb : ∀ (cd : Value) (A : Around) (fr : List PySem.Env) (s : Shared) (H : Hp) (vs : List V) (Q : VK) (E : XK), Room k (A.deeper (PyProof.Rows.envOfC qual scope s.heap.objs.size f cd)) → (A.deeper (PyProof.Rows.envOfC qual scope s.heap.objs.size f cd)).guards = some [] → sp vs H Q E →
      ∃ t, PSs (cxOf CX0 P w K mg base N qual scope f cd A fr s H E) body t ∧ t { nx := fun _ H1 => Q .non H1, rt := Q } (L2.start N vs) H) : FnG P w K mg base (k + 1) f fd ps sp := by
  obtain ⟨oc, od, dV, kV, doc, pm, an, cd, ct, osl, efd, lk, hcd, _, _⟩ := F.ex
  subst efd
  refine ⟨len, fun A fr s H args us vs Q E room hg env bnd rv prom => ?_⟩
  have lv := len _ _ _ _ prom
  have kin : K.In s.heap := env.mod.kin.keeps fun b o z => (env.bs b o z).1
  have nl : s.heap.NoLimit := env.mod.nolimit.keeps fun b o z => (env.bs b o z).1
  have kinds : ∀ y ∈ ps.zip us, scope.names.lookup y.1 = some .local ∨ (scope.names.lookup y.1 = some .cell ∧ ((cellsFrom (s.heap.objs.size + 1) scope.names []).lookup y.1).isSome = true) := by
    intro y hy
    have mem := (List.of_mem_zip (a := y.1) (b := y.2) hy).1
    cases sc.par y.1 mem with
    | inl loc => exact .inl loc
    | inr cel => exact .inr ⟨cel, PySem.W.cellsFrom_some _ _ _ (.inl cel)⟩
  refine codeAny_call_function room.depth (kin _ _ lk) rfl sc.co sc.gen rfl (PySem.W.codeRec_of kin hcd) (bnd _ _ _ _ ?_)
  refine wpAny_newFunctionEnv_cells sc.kind kinds fun env1 e1 s1 inc => ?_
  subst e1
  refine ⟨nl.keeps inc.toInCall.keep, codeAny_func ?_⟩
  obtain ⟨t, ht, hq⟩ := hb cd A fr s H vs Q E (room.deeper _) (by first | exact hg | simpa [Around.deeper, pushGuards, Code.guards, Code.isGuard] using hg) prom
  have inv := inv_start (CX := CX0) (P := P) (w := w) (mg := mg) (base := base) (E := E) (qual := qual) (f := f) (cd := cd) sc room.hd env lv rv inc
  refine wpAny_mono (ht.run [] s1 (L2.start N vs) H _ inv hq) (fun fl s2 h2 => ?_) fun _ _ z => z
  cases fl with
  | ret u =>
    obtain ⟨v, σ2, H2, J, rv2, q2⟩ := h2
    exact ⟨v, H2, J.os, J.bare, J.base, J.hok, rv2, q2⟩
  | next =>
    obtain ⟨σ2, H2, J, q2⟩ := h2
    exact ⟨.non, H2, J.os, J.bare, J.base, J.hok, rfl, q2⟩
  | brk => exact h2.elim fun _ h => h.elim fun _ h => (show False from h.2).elim
  | cont => exact h2.elim fun _ h => h.elim fun _ h => (show False from h.2).elim
end

section
variable {P : Program} {w : World} {K : PySem.W.Frag} {mg : Str → Option Value} {base : Heap} {f : Addr} {fd : FuncData}
theorem start_at {N : List Str} {vs : List V} {i : Nat} {v : V} (h : vs[i]? = some v) : (L2.start N vs)[i]? = some (some v) := by
  unfold L2.start
  have hi := (List.getElem?_eq_some_iff.mp h).1
  rw [List.getElem?_append_left (by simpa using hi), List.getElem?_map, h]
  rfl
theorem rep_start {H : Hp} {N : List Str} {ds : List D} {vs : List V} {S : Nat → AS} {n : Nat} (r : RepE K H (ds.map some) (vs.map some) S) (hn : N.length = n) (hl : ds.length ≤ n) : RepE K H (ds.map some ++ List.replicate (n - ds.length) none) (L2.start N vs) S where
  len := by
    have e := r.len
    rw [List.length_map, List.length_map] at e
    unfold L2.start
    rw [List.length_append, List.length_append, List.length_map, List.length_map, List.length_replicate, List.length_replicate, hn, e]
  at_ := fun i d h => by
    by_cases hi : i < ds.length
    · rw [List.getElem?_append_left (by simpa using hi)] at h
      obtain ⟨v, h1, h2⟩ := r.at_ i d h
      rw [List.getElem?_map] at h1
      cases q : vs[i]? with
      | none => rw [q] at h1; cases h1
      | some u =>
        rw [q] at h1
        have e : u = v := Option.some.inj (Option.some.inj h1)
        subst e
        exact ⟨u, start_at q, h2⟩
    · rw [List.getElem?_append_right (by simpa using Nat.le_of_not_lt hi), List.getElem?_replicate] at h
      split at h <;> cases h
  dj := r.dj
  mu := r.mu
theorem rep_outs {H : Hp} {N : List Str} {E : Env} {vs : List V} {σ : L2.St} {S : Nat → AS} {io : List Bool} (r : RepE K H E σ S) (hp : PinEq (pinOf io) (L2.start N vs) σ) (hl : io.length = vs.length) : RepE K H (outs io E) (vs.map some) S where
  len := by rw [outs_length, List.length_map, hl]
  at_ := fun i d h => by
    obtain ⟨h1, h2⟩ := outs_at io E i d h
    obtain ⟨v, h3, h4⟩ := r.at_ i d h2
    have hm : pinOf io i = true := by
      unfold pinOf
      rw [h1]
      rfl
    rw [hp.eq i hm] at h3
    have hi : i < vs.length := by
      rw [← hl]
      exact (List.getElem?_eq_some_iff.mp h1).1
    have hv : vs[i]? = some (vs[i]'hi) := List.getElem?_eq_getElem hi
    rw [start_at hv] at h3
    cases h3
    exact ⟨_, by rw [List.getElem?_map, hv]; rfl, h4⟩
  dj := r.dj
  mu := r.mu
/-- a def is F: by its body -/
theorem fnF {x qual : Str} {params : Arguments} {body : List Stmt} {scope : Scope} {dvs : List V} {kws : List (Str × V)} {N ps : List Str} {k np n : Nat} {B : (Nat → Bool) → SX} (F : FunD K x qual params body scope dvs kws f fd) (sc : FnScope N ps scope)
    (hn : N.length = n) (hp : ps.length = np)
    (hb : ∀ (cd : Value) (A : Around) (fr : List PySem.Env) (s : Shared) (H : Hp) (E : XK), Room k (A.deeper (PyProof.Rows.envOfC qual scope s.heap.objs.size f cd)) → (A.deeper (PyProof.Rows.envOfC qual scope s.heap.objs.size f cd)).guards = some [] →
      ∀ pin : Nat → Bool, DSs (cxOf CX0 P w K mg base N qual scope f cd A fr s H E).nox pin body (B pin)) : FnG P w K mg base (k + 1) f fd ps (spF K (mkF np n B)) := by
  refine FnG.of F sc (fun vs H Q E h => ?_) fun cd A fr s H vs Q E room hg h => ?_
  · obtain ⟨ds, io, S, r, E', e, rp, _⟩ := h
    unfold mkF at e
    split at e
    · rename_i hl
      have q := rp.len
      rw [List.length_map, List.length_map] at q
      rw [← q, hl.1, hp]
    · cases e
  · obtain ⟨ds, io, S, r, E', e, rp, k2⟩ := h
    unfold mkF at e
    split at e
    · rename_i hl
      have q := rp.len
      rw [List.length_map, List.length_map] at q
      have hle : np ≤ n := by
        have z := congrArg List.length sc.pre
        rw [List.length_take] at z
        omega
      rw [Option.bind_eq_some_iff] at e
      obtain ⟨⟨fl, E1⟩, e1, e2⟩ := e
      refine ⟨_, PSs.nox (hb cd A fr s H E room hg (pinOf io)), _, S, fl, E1, rep_start (n := n) rp hn (by omega), by rw [hl.1]; exact e1, ?_⟩
      have fin : ∀ {σ2 : L2.St} {H2 : Hp} {S2 : Nat → AS}, Stp K σ2 (tot S) H E1 S2 H2 → PinEq (pinOf io) (L2.start N vs) σ2 → Stp K (vs.map some) (tot S) H (outs io E1) S2 H2 := fun st hp' =>
        ⟨rep_outs st.env hp' (by rw [hl.2, ← hl.1, q]), st.frm, st.new⟩
      cases fl with
      | rt d =>
        have e2 : some (d, outs io E1) = some (r, E') := e2
        injection e2 with e2
        injection e2 with e3 e4
        subst e3 e4
        exact fun v σ2 H2 S2 T st pe z ow => k2 v H2 S2 T (fin st pe) z ow
      | nx =>
        have e2 : some (D.non, outs io E1) = some (r, E') := e2
        injection e2 with e2
        injection e2 with e3 e4
        subst e3 e4
        exact fun σ2 H2 S2 st pe => k2 .non H2 S2 no (fin st pe) rfl Ow.no
      | bk => cases e2
      | ct => cases e2
    · cases e
end

/-! ### a call -/
/-- which arguments are changed where they stand: a slot's, of what can be changed -/
def ioOf : List Tk → List D → List Bool
  | .slot _ :: ts, d :: ds => (!d.imm) :: ioOf ts ds
  | .own _ :: ts, _ :: ds => false :: ioOf ts ds
  | _, _ => []
/-- their slots -/
def ioSl : List Tk → List Bool → List Nat
  | .slot i :: ts, b :: bs => if b = true then i :: ioSl ts bs else ioSl ts bs
  | .own _ :: ts, _ :: bs => ioSl ts bs
  | _, _ => []
def apart : List Nat → Bool
  | [] => true
  | i :: r => !r.contains i && apart r
/-- what they hold behind the call -/
def putOuts : List Tk → List Bool → Env → Env → Env
  | .slot i :: ts, b :: bs, o :: os, E => if b = true then (putOuts ts bs os E).set i o else putOuts ts bs os E
  | .own _ :: ts, _ :: bs, _ :: os, E => putOuts ts bs os E
  | _, _, _, E => E
def eF (F : FN) (args : OXs) : EX := fun E => (args E).bind fun s => (rds s.1 s.2).bind fun ds =>
  if apart (ioSl s.1 (ioOf s.1 ds)) = true then (F ds (ioOf s.1 ds)).map fun r => (r.1, putOuts s.1 (ioOf s.1 ds) r.2 s.2) else none

section
variable {K : PySem.W.Frag} {H H1 H2 : Hp} {E : Env} {σ : L2.St} {S : Nat → AS}
def consS (T : AS) (S : Nat → AS) : Nat → AS
  | 0 => T
  | j + 1 => S j
theorem RepE.cons {d : D} {v : V} {T : AS} (h : Rep K H d v T) (r : RepE K H E σ S) (dj : Disj T (tot S)) (m : Mu H T) : RepE K H (some d :: E) (some v :: σ) (consS T S) where
  len := by rw [List.length_cons, List.length_cons, r.len]
  at_ := fun i x e => match i, e with
    | 0, e => by
      have e : d = x := Option.some.inj (Option.some.inj (by simpa using e))
      subst e
      exact ⟨v, rfl, h⟩
    | j + 1, e => by
      obtain ⟨u, h1, h2⟩ := r.at_ j x (by simpa using e)
      exact ⟨u, by simpa using h1, h2⟩
  dj := fun i j ne => match i, j, ne with
    | 0, 0, ne => absurd rfl ne
    | 0, j + 1, _ => fun a x y => dj a x ⟨j, y⟩
    | i + 1, 0, _ => fun a x y => dj a y ⟨i, x⟩
    | i + 1, j + 1, ne => r.dj i j fun z => ne (by rw [z])
  mu := fun a ⟨i, h⟩ => match i, h with
    | 0, h => m a h
    | j + 1, h => r.mu a ⟨j, h⟩
theorem tot_consS {T : AS} {S : Nat → AS} : Sub (tot (consS T S)) (un T (tot S)) := fun a ⟨i, h⟩ => match i, h with
  | 0, h => .inl h
  | j + 1, h => .inr ⟨j, h⟩
theorem RepE.nil : RepE K H [] [] (fun _ => no) := ⟨rfl, fun i d e => by simp at e, fun _ _ _ => Disj.no_l, fun a ⟨_, h⟩ => h.elim⟩
def UL (S : Nat → AS) (sl : List Nat) : AS := fun a => ∃ i ∈ sl, S i a
/-- the arguments, as the callee's slots -/
theorem args_rep (r : RepE K H E σ S) : ∀ {ts : List Tk} {vs : List V} {T : AS} {ds : List D}, TksOk K H σ ts vs T → rds ts E = some ds → Disj T (tot S) → Mu H T → apart (ioSl ts (ioOf ts ds)) = true →
    ∃ Sa, RepE K H (ds.map some) (vs.map some) Sa ∧ Sub (tot Sa) (un T (UL S (ioSl ts (ioOf ts ds))))
  | [], vs, T, ds, h, e, _, _, _ => by
    have h : vs = [] := h
    subst h
    cases e
    exact ⟨_, RepE.nil, fun a ⟨_, z⟩ => z.elim⟩
  | .own d0 :: ts, _, T, _, h, e, dj, m, ap => by
    obtain ⟨v, vs, T1, T2, rfl, h1, h2, s1, s2, d12⟩ := h
    obtain ⟨d, ds, rfl, q1, q2⟩ := rds_cons e
    cases q1
    obtain ⟨Sa, ra, sa⟩ := args_rep r h2 q2 (dj.mono s2 Sub.refl) (m.sub s2) ap
    have d1 : Disj T1 (tot Sa) := fun a x y => by
      rcases sa a y with z | ⟨i, _, z⟩
      · exact d12 a x z
      · exact dj a (s1 a x) ⟨i, z⟩
    refine ⟨_, RepE.cons h1 ra d1 (m.sub s1), fun a z => ?_⟩
    rcases tot_consS a z with z | z
    · exact .inl (s1 a z)
    · exact (sa a z).elim (fun z => .inl (s2 a z)) .inr
  | .slot i :: ts, _, T, _, h, e, dj, m, ap => by
    obtain ⟨v, vs, T1, T2, rfl, h1, h2, s1, s2, d12⟩ := h
    obtain ⟨d, ds, rfl, q1, q2⟩ := rds_cons e
    obtain ⟨v', hv, z⟩ := r.at_ i d (rd_slot q1)
    have h1 : σ[i]? = some (some v) := h1
    rw [h1] at hv
    have ev : v = v' := Option.some.inj (Option.some.inj hv)
    subst ev
    have e1 : ioOf (.slot i :: ts) (d :: ds) = (!d.imm) :: ioOf ts ds := rfl
    by_cases hi : d.imm = true
    · have e2 : ioSl (.slot i :: ts) (ioOf (.slot i :: ts) (d :: ds)) = ioSl ts (ioOf ts ds) := by
        rw [e1]
        show (if (!d.imm) = true then i :: ioSl ts (ioOf ts ds) else ioSl ts (ioOf ts ds)) = _
        rw [hi]
        rfl
      rw [e2] at ap ⊢
      obtain ⟨Sa, ra, sa⟩ := args_rep r h2 q2 (dj.mono s2 Sub.refl) (m.sub s2) ap
      refine ⟨_, RepE.cons (z.imm hi) ra Disj.no_l Mu.nil, fun a z => ?_⟩
      rcases tot_consS a z with z | z
      · exact z.elim
      · exact (sa a z).elim (fun z => .inl (s2 a z)) .inr
    · have e2 : ioSl (.slot i :: ts) (ioOf (.slot i :: ts) (d :: ds)) = i :: ioSl ts (ioOf ts ds) := by
        rw [e1]
        show (if (!d.imm) = true then i :: ioSl ts (ioOf ts ds) else ioSl ts (ioOf ts ds)) = _
        rw [if_pos (by simpa using hi)]
      rw [e2] at ap ⊢
      unfold apart at ap
      rw [Bool.and_eq_true] at ap
      obtain ⟨Sa, ra, sa⟩ := args_rep r h2 q2 (dj.mono s2 Sub.refl) (m.sub s2) ap.2
      have d1 : Disj (S i) (tot Sa) := fun a x y => by
        rcases sa a y with z | ⟨j, hj, z⟩
        · exact dj a (s2 a z) ⟨i, x⟩
        · refine r.dj i j (fun e => ?_) a x z
          subst e
          have q := ap.1
          simp [hj] at q
      refine ⟨_, RepE.cons z ra d1 (r.mui i), fun a z => ?_⟩
      rcases tot_consS a z with z | z
      · exact .inr ⟨i, List.mem_cons_self, z⟩
      · rcases sa a z with z | ⟨j, hj, z⟩
        · exact .inl (s2 a z)
        · exact .inr ⟨j, List.mem_cons_of_mem _ hj, z⟩
/-- the slots behind the call -/
theorem putOuts_length : ∀ (ts : List Tk) (bs : List Bool) (os E : Env), (putOuts ts bs os E).length = E.length
  | [], _, _, _ => by unfold putOuts; rfl
  | .slot i :: ts, [], _, _ => by unfold putOuts; rfl
  | .own _ :: ts, [], _, _ => by unfold putOuts; rfl
  | .slot i :: ts, b :: bs, [], _ => by unfold putOuts; rfl
  | .own _ :: ts, b :: bs, [], _ => by unfold putOuts; rfl
  | .slot i :: ts, b :: bs, o :: os, E => by
    show (if b = true then (putOuts ts bs os E).set i o else putOuts ts bs os E).length = _
    split
    · rw [List.length_set, putOuts_length ts bs os E]
    · rw [putOuts_length ts bs os E]
  | .own _ :: ts, b :: bs, o :: os, E => putOuts_length ts bs os E
theorem putOuts_at : ∀ (ts : List Tk) (bs : List Bool) (os E : Env) (i : Nat) (d : D), bs.length = ts.length → os.length = ts.length → (putOuts ts bs os E)[i]? = some (some d) →
    (i ∉ ioSl ts bs ∧ E[i]? = some (some d)) ∨ ∃ j : Nat, ts[j]? = some (Tk.slot i) ∧ bs[j]? = some true ∧ os[j]? = some (some d)
  | [], _, _, _, i, d, _, _, h => by
    unfold putOuts at h
    exact .inl ⟨by simp [ioSl], h⟩
  | .slot k :: ts, b :: bs, o :: os, E, i, d, l1, l2, h => by
    have h : (if b = true then (putOuts ts bs os E).set k o else putOuts ts bs os E)[i]? = some (some d) := h
    have e : ioSl (.slot k :: ts) (b :: bs) = if b = true then k :: ioSl ts bs else ioSl ts bs := rfl
    by_cases hb : b = true
    · rw [if_pos hb] at h
      rw [e, if_pos hb]
      by_cases hk : k = i
      · subst hk
        have hl : k < (putOuts ts bs os E).length := by
          have z := (List.getElem?_eq_some_iff.mp h).1
          rwa [List.length_set] at z
        rw [List.getElem?_set_self hl] at h
        exact .inr ⟨0, rfl, by rw [hb]; rfl, h⟩
      · rw [List.getElem?_set_ne hk] at h
        rcases putOuts_at ts bs os E i d (by simpa using l1) (by simpa using l2) h with ⟨h1, h2⟩ | ⟨j, h1, h2, h3⟩
        · exact .inl ⟨by simp only [List.mem_cons, not_or]; exact ⟨fun z => hk z.symm, h1⟩, h2⟩
        · exact .inr ⟨j + 1, by simpa using h1, by simpa using h2, by simpa using h3⟩
    · rw [if_neg hb] at h
      rw [e, if_neg hb]
      rcases putOuts_at ts bs os E i d (by simpa using l1) (by simpa using l2) h with ⟨h1, h2⟩ | ⟨j, h1, h2, h3⟩
      · exact .inl ⟨h1, h2⟩
      · exact .inr ⟨j + 1, by simpa using h1, by simpa using h2, by simpa using h3⟩
  | .own _ :: ts, b :: bs, o :: os, E, i, d, l1, l2, h => by
    have h : (putOuts ts bs os E)[i]? = some (some d) := h
    rcases putOuts_at ts bs os E i d (by simpa using l1) (by simpa using l2) h with ⟨h1, h2⟩ | ⟨j, h1, h2, h3⟩
    · exact .inl ⟨h1, h2⟩
    · exact .inr ⟨j + 1, by simpa using h1, by simpa using h2, by simpa using h3⟩
  | .slot _ :: _, [], _, _, _, _, l1, _, _ => by simp at l1
  | .own _ :: _, [], _, _, _, _, l1, _, _ => by simp at l1
  | .slot _ :: _, _ :: _, [], _, _, _, _, l2, _ => by simp at l2
  | .own _ :: _, _ :: _, [], _, _, _, _, l2, _ => by simp at l2
theorem ioSl_of : ∀ (ts : List Tk) (bs : List Bool) (i j : Nat), ts[j]? = some (Tk.slot i) → bs[j]? = some true → i ∈ ioSl ts bs
  | [], _, _, _, h, _ => by simp at h
  | _ :: _, [], _, _, _, h => by simp at h
  | t :: ts, b :: bs, i, 0, h, h' => by
    simp only [List.getElem?_cons_zero, Option.some.injEq] at h h'
    subst h h'
    show i ∈ (if true = true then i :: ioSl ts bs else ioSl ts bs)
    rw [if_pos rfl]
    exact List.mem_cons_self
  | .slot k :: ts, b :: bs, i, j + 1, h, h' => by
    have q := ioSl_of ts bs i j (by simpa using h) (by simpa using h')
    show i ∈ (if b = true then k :: ioSl ts bs else ioSl ts bs)
    split
    · exact List.mem_cons_of_mem _ q
    · exact q
  | .own _ :: ts, b :: bs, i, j + 1, h, h' => ioSl_of ts bs i j (by simpa using h) (by simpa using h')
theorem ioOf_length : ∀ (ts : List Tk) (ds : List D), ts.length = ds.length → (ioOf ts ds).length = ts.length
  | [], [], _ => rfl
  | .slot _ :: ts, d :: ds, h => by
    show ((!d.imm) :: ioOf ts ds).length = _
    rw [List.length_cons, List.length_cons, ioOf_length ts ds (by simpa using h)]
  | .own _ :: ts, d :: ds, h => by
    show (false :: ioOf ts ds).length = _
    rw [List.length_cons, List.length_cons, ioOf_length ts ds (by simpa using h)]
  | [], _ :: _, h => by simp at h
  | _ :: _, [], h => by simp at h
theorem rds_length : ∀ {ts : List Tk} {ds : List D}, rds ts E = some ds → ts.length = ds.length
  | [], _, e => by cases e; rfl
  | t :: ts, _, e => by
    obtain ⟨d, ds, rfl, _, q⟩ := rds_cons e
    rw [List.length_cons, List.length_cons, rds_length q]
theorem TksOk.slot : ∀ {ts : List Tk} {vs : List V} {T : AS} {j i : Nat}, TksOk K H σ ts vs T → ts[j]? = some (Tk.slot i) → ∃ v, vs[j]? = some v ∧ σ[i]? = some (some v)
  | [], _, _, _, _, _, h => by simp at h
  | t :: ts, _, _, 0, i, h, e => by
    obtain ⟨v, r, T1, T2, rfl, h1, _⟩ := h
    simp only [List.getElem?_cons_zero, Option.some.injEq] at e
    subst e
    exact ⟨v, rfl, h1⟩
  | t :: ts, _, _, j + 1, i, h, e => by
    obtain ⟨v, r, T1, T2, rfl, _, h2, _⟩ := h
    obtain ⟨u, h3, h4⟩ := TksOk.slot h2 (j := j) (i := i) (by simpa using e)
    exact ⟨u, by simpa using h3, h4⟩
end

section
variable {K : PySem.W.Frag} {H H1 H2 : Hp} {E : Env} {σ : L2.St} {S : Nat → AS}
/-- the slots behind a call: those that were handed over to be changed hold what the callee left -/
def backS (ts : List Tk) (bs : List Bool) (S Sa : Nat → AS) : Nat → AS := fun i a => (i ∉ ioSl ts bs ∧ S i a) ∨ ∃ j : Nat, ts[j]? = some (Tk.slot i) ∧ bs[j]? = some true ∧ Sa j a
theorem back_rep {ts : List Tk} {bs : List Bool} {vs : List V} {T : AS} {os : Env} {Sa Sb : Nat → AS} (r : RepE K H E σ S) (k : TksOk K H σ ts vs T) (dT : Disj T (tot S)) (hS : Sub (tot Sa) (un T (UL S (ioSl ts bs)))) (mS : Mu H (tot Sa))
    (f : Frm (tot Sa) H H2) (n : News (tot Sa) H (tot Sb)) (rb : RepE K H2 os (vs.map some) Sb) (l1 : bs.length = ts.length) (l2 : os.length = ts.length) : RepE K H2 (putOuts ts bs os E) σ (backS ts bs S Sb) := by
  have ap : ∀ i, i ∉ ioSl ts bs → Disj (S i) (tot Sa) := fun i hi a x y => by
    rcases hS a y with z | ⟨j, hj, z⟩
    · exact dT a z ⟨i, x⟩
    · refine r.dj i j (fun e => ?_) a x z
      subst e
      exact hi hj
  have apb : ∀ i, i ∉ ioSl ts bs → Disj (S i) (tot Sb) := fun i hi => n.disj (ap i hi) (r.mui i)
  refine ⟨by rw [putOuts_length]; exact r.len, fun i d e => ?_, fun i j ne a x y => ?_, fun a ⟨i, h⟩ => ?_⟩
  · rcases putOuts_at ts bs os E i d l1 l2 e with ⟨h1, h2⟩ | ⟨j, h1, h2, h3⟩
    · obtain ⟨v, e1, z⟩ := r.at_ i d h2
      exact ⟨v, e1, (z.frm f mS (ap i h1)).sub fun a q => .inl ⟨h1, q⟩⟩
    · obtain ⟨v, e1, e2⟩ := k.slot h1
      obtain ⟨u, e3, z⟩ := rb.at_ j d h3
      rw [List.getElem?_map, e1] at e3
      have ev : v = u := Option.some.inj (Option.some.inj e3)
      subst ev
      exact ⟨v, e2, z.sub fun a q => .inr ⟨j, h1, h2, q⟩⟩
  · rcases x with ⟨hi, x⟩ | ⟨k1, t1, b1, x⟩
    · rcases y with ⟨hj, y⟩ | ⟨k2, t2, b2, y⟩
      · exact r.dj i j ne a x y
      · exact apb i hi a x ⟨k2, y⟩
    · rcases y with ⟨hj, y⟩ | ⟨k2, t2, b2, y⟩
      · exact apb j hj a y ⟨k1, x⟩
      · refine rb.dj k1 k2 (fun e => ?_) a x y
        subst e
        rw [t1] at t2
        cases t2
        exact ne rfl
  · rcases h with ⟨hi, h⟩ | ⟨k1, t1, b1, h⟩
    · obtain ⟨o, e, z⟩ := r.mu a ⟨i, h⟩
      exact ⟨o, f a o e fun q => ap i hi a h q, z⟩
    · exact rb.mu a ⟨k1, h⟩
theorem backS_tot {ts : List Tk} {bs : List Bool} {Sb : Nat → AS} : Sub (tot (backS ts bs S Sb)) (un (tot S) (tot Sb)) := fun a ⟨i, h⟩ => by
  rcases h with ⟨_, h⟩ | ⟨k1, _, _, h⟩
  · exact .inl ⟨i, h⟩
  · exact .inr ⟨k1, h⟩
end
section
variable {X : Cx} {p : Bool} {e : Expr} {es : List Expr} {pos : Pos} {F : FN}
/-- a call of a def, by trees -/
theorem callF_ok {ρ : OXs} {σ : L2.St} {H : Hp} {Q : VK} {E0 : XK} (w : tD X.K false (eF F ρ) σ H Q) (len : ∀ ds io r, F ds io = some r → r.2.length = ds.length) : tCall (spF X.K F) [] E0 (tOs X.K p ρ) σ H Q := by
  obtain ⟨E, S, d, E', r0, w1, w⟩ := w
  simp only [eF, Option.bind_eq_some_iff] at w1
  obtain ⟨⟨ts, E1⟩, e1, ds, e2, w1⟩ := w1
  split at w1
  · rename_i hap
    simp only [Option.map_eq_some_iff] at w1
    obtain ⟨⟨r, os⟩, e3, ee⟩ := w1
    injection ee with ee1 ee2
    subst ee1 ee2
    refine ⟨E, S, ts, E1, r0, e1, fun vs H1 S1 T1 s1 k1 o1 _ => ?_⟩
    obtain ⟨Sa, ra, sa⟩ := args_rep s1.env k1 e2 o1.dj o1.mu hap
    rw [List.append_nil]
    refine ⟨ds, _, Sa, r, os, e3, ra, fun v H2 Sb T2 s2 z o2 => ?_⟩
    have l0 := rds_length e2
    have l1 := ioOf_length ts ds l0
    have l2 : os.length = ts.length := (len _ _ _ e3).trans l0.symm
    have env2 := back_rep s1.env k1 o1.dj sa ra.mu s2.frm s2.new s2.env l1 l2
    -- what the arguments may be changed at lies in the slots and the values on the way
    have su : Sub (tot Sa) (un T1 (tot S1)) := fun a q => (sa a q).elim .inl fun ⟨i, _, q⟩ => .inr ⟨i, q⟩
    have nu : News (tot S) H (un T1 (tot S1)) := o1.new.un s1.new
    have fr : Frm (tot S) H H2 := s1.frm.trans nu (s2.frm.mono su)
    have nb : News (tot S) H (tot Sb) := nu.trans s1.frm fun a q => (s2.new a q).elim (fun z => .inl (su a z)) .inr
    have nn : News (tot S) H (tot (backS ts (ioOf ts ds) S1 Sb)) := fun a q => (backS_tot a q).elim (s1.new a) (nb a)
    refine w v H2 _ T2 ⟨env2, fr, nn⟩ z ⟨fun a x y => ?_, o2.mu, nu.trans s1.frm fun a q => (o2.new a q).elim (fun z => .inl (su a z)) .inr⟩ fun h => by cases h
    obtain ⟨i, y⟩ := y
    rcases y with ⟨hi, y⟩ | ⟨j, _, _, y⟩
    · rcases o2.new a x with q | q
      · rcases sa a q with q | ⟨j, hj, q⟩
        · exact o1.dj a q ⟨i, y⟩
        · refine s1.env.dj i j (fun z => ?_) a y q
          subst z
          exact hi hj
      · obtain ⟨o, e, _⟩ := s1.env.mui i a y
        rw [q] at e; cases e
    · exact o2.dj a x ⟨j, y⟩
  · cases w1
theorem mkF_len {np n : Nat} {B : (Nat → Bool) → SX} : ∀ ds io r, mkF np n B ds io = some r → r.2.length = ds.length := fun ds io r h => by
  unfold mkF at h
  split at h
  · rename_i hl
    rw [Option.bind_eq_some_iff] at h
    obtain ⟨⟨fl, E1⟩, _, h⟩ := h
    cases fl with
    | rt d =>
      have h : some (d, outs io E1) = some r := h
      cases h
      show (outs io E1).length = _
      rw [outs_length, hl.2, hl.1]
    | nx =>
      have h : some (D.non, outs io E1) = some r := h
      cases h
      show (outs io E1).length = _
      rw [outs_length, hl.2, hl.1]
    | bk => cases h
    | ct => cases h
  · cases h
/-- f(e, ..), f a def of the module -/
theorem de_call {k : Nat} {f : Addr} {fd : FuncData} {ps : List Str} {x : Str} {np : Pos} {ρ : OXs} (G : FnG X.prog X.w X.K X.mg X.base k f fd ps (spF X.K F)) (len : ∀ ds io r, F ds io = some r → r.2.length = ds.length)
    (room : Room k X.A) (hgd : X.A.guards = some []) (hg : Gl X x) (hm : X.mg x = some (.ref f)) (kp : PySem.W.keepIn X.K (.ref f) = true) (hb : Binds X.K fd ps []) (ha : DOs X p (e :: es) ρ) (hdb : (x == ("__debug__" : Str)) = false := by decide)
    (he : starEach (e :: es) X.env = (false, eval e X.env) :: starEach es X.env := by rfl) (hpl : (backTo pos (starEach es X.env)).any (·.1) = false := by rfl) : DE X false (.Call (.Name x np) (e :: es) [] pos) (eF F ρ) := by
  have main : PE X (.Call (.Name x np) (e :: es) [] pos) (tCall (spF X.K F) [] E0 (tOs X.K p ρ)) := by
    refine ⟨fun pins s σ H Q inv hw => wpAny_Call_Name_kw (ld_glob inv hg hm ?_ hdb)⟩
    refine PySem.W.callWith_K (h₀ := X.base) inv.ok.mod.kin kp ?_ he hpl
    refine thn (ha.run pos pins s σ H _ inv hw) fun us s1 ⟨vs, H1, inv1, rv, q⟩ => ⟨inv1.kIn, ?_⟩
    have q : spF X.K F (vs ++ []) H1 Q E0 := q
    rw [List.append_nil] at q
    have hl : us.length = ps.length := by rw [← Vals.length rv]; exact G.len _ _ _ _ q
    have bnd := hb s1 us inv1.kIn (by rw [List.append_nil]; exact hl)
    rw [List.append_nil] at bnd
    refine wpAny_call (codeAny_mono (G.run X.A X.stack s1 H1 ⟨us, []⟩ us vs Q E0 room hgd inv1.env0 bnd rv q) fun r s2 h2 => ?_)
    cases r with
    | error _ => exact h2.elim
    | ok fl =>
      cases fl with
      | ret u => exact inv1.after h2
      | next => exact (show False from h2).elim
      | brk => exact (show False from h2).elim
      | cont => exact (show False from h2).elim
  exact PE.imp main fun _ _ _ w => callF_ok w len
end
end Dn
end
section
/-! Dn5: targets, statements, while. -/
namespace Dn
open PySem PySem.Spec L2

/-! ### targets -/
abbrev TX := D → Env → Option Env
abbrev TXs := List D → Env → Option Env
section
variable (K : PySem.W.Frag)
def tG (pin : Nat → Bool) (τ : TX) : TG := fun v σ H Q => ∃ E S d T E', RepE K H E σ S ∧ Rep K H d v T ∧ Disj T (tot S) ∧ Mu H T ∧ τ d E = some E' ∧
  ∀ σ' H' S', RepE K H' E' σ' S' → Frm (un (tot S) T) H H' → News (un (tot S) T) H (tot S') → PinEq pin σ σ' → Q σ' H'
def tGs (pin : Nat → Bool) (τ : TXs) : TGs := fun vs σ H Q => ∃ E S ds T E', RepE K H E σ S ∧ RepL K H ds vs T ∧ Disj T (tot S) ∧ Mu H T ∧ τ ds E = some E' ∧
  ∀ σ' H' S', RepE K H' E' σ' S' → Frm (un (tot S) T) H H' → News (un (tot S) T) H (tot S') → PinEq pin σ σ' → Q σ' H'
end
abbrev DG (X : Cx) (pin : Nat → Bool) (e : Expr) (τ : TX) : Prop := PG X e (tG X.K pin τ)
abbrev DGs (X : Cx) (pin : Nat → Bool) (es : List Expr) (τ : TXs) : Prop := PGs X es (tGs X.K pin τ)
theorem PinEq.refl {pin : Nat → Bool} {σ : L2.St} : PinEq pin σ σ := ⟨rfl, fun _ _ => rfl⟩
theorem PinEq.trans {pin : Nat → Bool} {σ σ1 σ2 : L2.St} (a : PinEq pin σ σ1) (b : PinEq pin σ1 σ2) : PinEq pin σ σ2 := ⟨b.len.trans a.len, fun i h => (b.eq i h).trans (a.eq i h)⟩
theorem PinEq.sub {pin pin' : Nat → Bool} {σ σ' : L2.St} (a : PinEq pin' σ σ') (s : ∀ i, pin i = true → pin' i = true) : PinEq pin σ σ' := ⟨a.len, fun i h => a.eq i (s i h)⟩
theorem PinEq.set {pin : Nat → Bool} {σ : L2.St} {i : Nat} {v : Option V} (h : pin i = false) : PinEq pin σ (σ.set i v) := ⟨List.length_set, fun j hj => by
  refine List.getElem?_set_ne (fun e => ?_)
  subst e
  rw [h] at hj
  cases hj⟩
section
variable {X : Cx} {pos : Pos} {pin : Nat → Bool} {e : Expr} {es : List Expr}
theorem PG.imp {t t' : TG} (h : PG X e t) (i : ∀ v σ H Q, t' v σ H Q → t v σ H Q) : PG X e t' := ⟨fun pins s σ H v u Q I r w => h.run pins s σ H v u Q I r (i v σ H Q w)⟩
theorem PGs.imp {t t' : TGs} (h : PGs X es t) (i : ∀ v σ H Q, t' v σ H Q → t v σ H Q) : PGs X es t' := ⟨fun pins s σ H v u Q I r w => h.run pins s σ H v u Q I r (i v σ H Q w)⟩
def gN (pin : Nat → Bool) (i : Nat) : TX := fun d E => if pin i = true then none else some (E.set i (some d))
theorem name_ok {K : PySem.W.Frag} {i : Nat} {v : V} {σ : L2.St} {H : Hp} {Q : L2.St → Hp → Prop} (w : tG K pin (gN pin i) v σ H Q) : gName i v σ H Q := by
  obtain ⟨E, S, d, T, E', r, z, dj, m, e1, w⟩ := w
  unfold gN at e1
  split at e1
  · cases e1
  · rename_i hp
    cases e1
    exact w _ H _ (r.set z dj m) Frm.refl (fun a h => .inl ((tot_set a h).symm)) (PinEq.set (by simpa using hp))
theorem dg_name {i : Nat} {x : Str} (hN : X.N.Nodup) (hi : X.N[i]? = some x) (hx : Loc X.env.scope x) (hf : X.fn x = true ∨ X.env.scope.names.lookup x = some .local := by first | exact .inl rfl | exact .inr rfl | assumption) : DG X pin (.Name x pos) (gN pin i) :=
  PG.imp (pg_name hN hi hx hf) fun _ _ _ _ w => name_ok w
def gsNil : TXs := fun ds E => match ds with
  | [] => some E
  | _ => none
def gsCons (τ : TX) (r : TXs) : TXs := fun ds E => match ds with
  | d :: ds => (τ d E).bind fun E1 => r ds E1
  | [] => none
theorem dgs_nil : DGs X pin [] gsNil := PGs.imp pgs_nil fun vs σ H Q w => by
  obtain ⟨E, S, ds, T, E', r, z, dj, m, e1, w⟩ := w
  cases ds with
  | nil =>
    cases e1
    exact ⟨z, w σ H S r Frm.refl (fun a h => .inl (.inl h)) PinEq.refl⟩
  | cons d ds => cases e1
theorem dgs_cons {τ : TX} {r : TXs} (h1 : DG X pin e τ) (h2 : DGs X pin es r) (hs : (assignEach (e :: es) X.env).map (·.2) = assign e X.env :: (assignEach es X.env).map (·.2) := by rfl) : DGs X pin (e :: es) (gsCons τ r) := by
  refine PGs.imp (pgs_cons h1 h2 hs) fun vs σ H Q w => ?_
  obtain ⟨E, S, ds, T, E', rp, z, dj, m, e1, w⟩ := w
  cases ds with
  | nil => cases e1
  | cons d ds =>
    have e1 : ((τ d E).bind fun E1 => r ds E1) = some E' := e1
    rw [Option.bind_eq_some_iff] at e1
    obtain ⟨E1, e1, e2⟩ := e1
    obtain ⟨v, r', T1, T2, ev, z1, z2, s1, s2, d12⟩ := z
    refine ⟨v, r', ev, E, S, d, T1, E1, rp, z1, dj.mono s1 Sub.refl, m.sub s1, e1, fun σ1 H1 S1 rp1 f1 n1 p1 => ?_⟩
    have mU : Mu H (un (tot S) T1) := rp.mu.un (m.sub s1)
    have dU : Disj T2 (un (tot S) T1) := fun a x y => y.elim (dj a (s2 a x)) fun y => d12 a y x
    refine ⟨E1, S1, ds, T2, E', rp1, z2.frm f1 mU dU, n1.disj dU (m.sub s2), (m.sub s2).frm f1 dU, e2, fun σ2 H2 S2 rp2 f2 n2 p2 => ?_⟩
    have sU : Sub (un (tot S) T1) (un (tot S) T) := fun a h => h.elim .inl fun h => .inr (s1 a h)
    have nn : News (un (tot S) T) H (un (tot S1) T2) := fun a h => h.elim (fun h => (n1 a h).elim (fun q => .inl (sU a q)) .inr) fun h => .inl (.inr (s2 a h))
    exact w σ2 H2 S2 rp2 ((f1.mono sU).trans nn f2) (nn.trans (f1.mono sU) n2) (p1.trans p2)
/-- (a, b, ..) -/
def gTup (n : Nat) (τ : TXs) : TX := fun d E => match d with
  | .tup ds => if ds.length = n then τ ds E else none
  | _ => none
theorem dg_tup {k n : Nat} {τ : TXs} (hc : X.calm = true) (h : DGs X pin es τ) (hn : (assignEach es X.env).length = n := by rfl) (hst : (assignEach es X.env).findIdx? (·.1) = none := by rfl) : DG X pin (.Tuple es k pos) (gTup n τ) := by
  refine PG.imp (pg_tup hc h hn hst) fun v σ H Q w => ?_
  obtain ⟨E, S, d, T, E', r, z, dj, m, e1, w⟩ := w
  unfold gTup at e1
  split at e1
  · split at e1
    · rename_i ds hl
      obtain ⟨a, xs, e2, q, l⟩ := z
      exact ⟨a, xs, e2, q.seq, l.length.trans hl, E, S, ds, T, E', r, l, dj, m, e1, w⟩
    · cases e1
  · cases e1

/-! ### blocks -/
variable {st : Stmt} {sts : List Stmt}
def sNil : SX := fun E => some (.nx, E)
def sSeq (x y : SX) : SX := fun E => (x E).bind fun s => match s.1 with
  | .nx => y s.2
  | f => some (f, s.2)
theorem dss_nil : DSs X pin [] sNil := PSs.imp pss_nil fun Z σ H w => by
  obtain ⟨E, S, fl, E', r, e1, w⟩ := w
  cases e1
  exact w σ H S (Stp.refl r) PinEq.refl
theorem Stp.cat {K : PySem.W.Frag} {σ σ1 : L2.St} {S : AS} {H H1 H2 : Hp} {E1 E2 : Env} {S1 S2 : Nat → AS} (a : Stp K σ S H E1 S1 H1) (b : Stp K σ1 (tot S1) H1 E2 S2 H2) : Stp K σ1 S H E2 S2 H2 := ⟨b.env, a.frm.trans a.new b.frm, a.new.trans a.frm b.new⟩
theorem Ow.cat {K : PySem.W.Frag} {σ : L2.St} {S : AS} {H H1 H2 : Hp} {E1 : Env} {S1 S2 : Nat → AS} {T : AS} (o : Ow (tot S1) H1 S2 H2 T) (a : Stp K σ S H E1 S1 H1) : Ow S H S2 H2 T := o.pre a
theorem dss_cons {x y : SX} (h1 : DS X pin st x) (h2 : DSs X pin sts y) : DSs X pin (st :: sts) (sSeq x y) := by
  refine PSs.imp (pss_cons h1 h2) fun Z σ H w => ?_
  obtain ⟨E, S, fl, E', r, e1, w⟩ := w
  simp only [sSeq, Option.bind_eq_some_iff] at e1
  obtain ⟨⟨f1, E1⟩, e1, e2⟩ := e1
  refine ⟨E, S, f1, E1, r, e1, ?_⟩
  cases f1 with
  | nx =>
    intro σ1 H1 S1 s1 p1
    refine ⟨E1, S1, fl, E', s1.env, e2, ?_⟩
    cases fl with
    | nx => exact fun σ2 H2 S2 s2 p2 => w σ2 H2 S2 (s1.cat s2) (p1.trans p2)
    | bk => exact fun σ2 H2 S2 s2 p2 => w σ2 H2 S2 (s1.cat s2) (p1.trans p2)
    | ct => exact fun σ2 H2 S2 s2 p2 => w σ2 H2 S2 (s1.cat s2) (p1.trans p2)
    | rt d => exact fun v σ2 H2 S2 T s2 p2 z o => w v σ2 H2 S2 T (s1.cat s2) (p1.trans p2) z (o.pre s1)
  | bk => cases e2; exact w
  | ct => cases e2; exact w
  | rt d => cases e2; exact w
theorem dss_one {x : SX} (h : DS X pin st x) : DSs X pin [st] x := pss_one h
theorem ds_pass : DS X pin (.Pass pos) sNil := PS.imp ps_pass fun Z σ H w => by
  obtain ⟨E, S, fl, E', r, e1, w⟩ := w
  cases e1
  exact w σ H S (Stp.refl r) PinEq.refl
def sBk : SX := fun E => some (.bk, E)
def sCt : SX := fun E => some (.ct, E)
theorem ds_break : DS X pin (.Break pos) sBk := PS.imp ps_break fun Z σ H w => by
  obtain ⟨E, S, fl, E', r, e1, w⟩ := w
  cases e1
  exact w σ H S (Stp.refl r) PinEq.refl
theorem ds_continue : DS X pin (.Continue pos) sCt := PS.imp ps_continue fun Z σ H w => by
  obtain ⟨E, S, fl, E', r, e1, w⟩ := w
  cases e1
  exact w σ H S (Stp.refl r) PinEq.refl
def sNever : SX := fun _ => none
theorem ds_never : DS X pin st sNever := PS.imp ps_never fun Z σ H w => by
  obtain ⟨E, S, fl, E', r, e1, w⟩ := w
  cases e1
theorem dss_never : DSs X pin sts sNever := PSs.imp pss_never fun Z σ H w => by
  obtain ⟨E, S, fl, E', r, e1, w⟩ := w
  cases e1

/-! ### values given, dropped, returned -/
variable {p : Bool}
def sAsg (x : EX) (τ : TX) : SX := fun E => (x E).bind fun s => (τ s.1 s.2).map fun E2 => (.nx, E2)
theorem asg_ok {K : PySem.W.Frag} {x : EX} {τ : TX} {Z : Ends} {σ : L2.St} {H : Hp} (w : tS K pin (sAsg x τ) Z σ H) : tAsg (tD K p x) (tG K pin τ) Z σ H := by
  obtain ⟨E, S, fl, E', r, e1, w⟩ := w
  simp only [sAsg, Option.bind_eq_some_iff, Option.map_eq_some_iff] at e1
  obtain ⟨⟨d, E1⟩, e1, E2, e2, ee⟩ := e1
  injection ee with ee1 ee2
  subst ee1 ee2
  refine ⟨E, S, d, E1, r, e1, fun v H1 S1 T1 s1 z1 o1 _ => ⟨E1, S1, d, T1, E2, s1.env, z1, o1.dj, o1.mu, e2, fun σ2 H2 S2 r2 f2 n2 p2 => ?_⟩⟩
  have nn : News (tot S) H (un (tot S1) T1) := s1.new.un o1.new
  exact w σ2 H2 S2 ⟨r2, s1.frm.trans nn f2, nn.trans s1.frm n2⟩ p2
theorem ds_asg {tg : Expr} {x : EX} {τ : TX} (he : DE X p e x) (hg : DG X pin tg τ) (hs : swapsWithSole [tg] e pos.line X.env = pure false := by rfl) (hw : swappedStores [tg] e X.env = pure none := by rfl)
    (h1 : (assignEach [tg] X.env).map (·.2) = [assign tg X.env] := by rfl) : DS X pin (.Assign [tg] e pos) (sAsg x τ) := PS.imp (ps_asg he hg hs hw h1) fun _ _ _ w => asg_ok w
theorem asgn_ok {K : PySem.W.Frag} {x : EX} {i : Nat} {Z : Ends} {σ : L2.St} {H : Hp} (w : tS K pin (sAsg x (gN pin i)) Z σ H) : tAsg (tD K p x) (gName i) Z σ H := by
  have q := asg_ok (p := p) w
  obtain ⟨E, S, d, E', r, e1, k⟩ := q
  exact ⟨E, S, d, E', r, e1, fun v H1 S1 T1 s1 z1 o1 m1 => name_ok (k v H1 S1 T1 s1 z1 o1 m1)⟩
/-- name = e -/
theorem ds_set {i : Nat} {x : Str} {ρ : EX} {pos' : Pos} (hN : X.N.Nodup) (hi : X.N[i]? = some x) (hx : Loc X.env.scope x) (he : DE X p e ρ) (hs : swapsWith e (some (.Name x pos')) pos.line X.env = pure false := by rfl)
    (hf : X.fn x = true ∨ X.env.scope.names.lookup x = some .local := by first | exact .inl rfl | exact .inr rfl | assumption) : DS X pin (.Assign [.Name x pos'] e pos) (sAsg ρ (gN pin i)) :=
  PS.imp (ps_set hN hi hx he hs hf) fun _ _ _ w => asgn_ok w
def sExp (x : EX) : SX := fun E => (x E).map fun s => (.nx, s.2)
theorem ds_expr {x : EX} (he : DE X p e x) (hs : swapsWith e none pos.line X.env = pure false := by rfl) : DS X pin (.Expr e pos) (sExp x) := by
  refine PS.imp (ps_expr he hs) fun Z σ H w => ?_
  obtain ⟨E, S, fl, E', r, e1, w⟩ := w
  simp only [sExp, Option.map_eq_some_iff] at e1
  obtain ⟨⟨d, E1⟩, e1, ee⟩ := e1
  injection ee with ee1 ee2
  subst ee1 ee2
  exact ⟨E, S, d, E1, r, e1, fun v H1 S1 T1 s1 z1 o1 _ => w σ H1 S1 s1 PinEq.refl⟩
def sRet (x : EX) : SX := fun E => (x E).map fun s => (.rt s.1, s.2)
theorem ds_ret {x : EX} (he : DE X p e x) : DS X pin (.Return (some e) pos) (sRet x) := by
  refine PS.imp (ps_ret he) fun Z σ H w => ?_
  obtain ⟨E, S, fl, E', r, e1, w⟩ := w
  simp only [sRet, Option.map_eq_some_iff] at e1
  obtain ⟨⟨d, E1⟩, e1, ee⟩ := e1
  injection ee with ee1 ee2
  subst ee1 ee2
  exact ⟨E, S, d, E1, r, e1, fun v H1 S1 T1 s1 z1 o1 _ => w v σ H1 S1 T1 s1 PinEq.refl z1 o1⟩
def sRetN : SX := fun E => some (.rt .non, E)
theorem ds_retN : DS X pin (.Return none pos) sRetN := PS.imp ps_retN fun Z σ H w => by
  obtain ⟨E, S, fl, E', r, e1, w⟩ := w
  cases e1
  exact w .non σ H S no (Stp.refl r) PinEq.refl rfl Ow.no
def sIf (t : BX) (x y : SX) : SX := fun E => (t E).bind fun s => if s.1 = true then x s.2 else y s.2
theorem ds_if {c : Expr} {a b : List Stmt} {t : BX} {x y : SX} (hc : DT X p c t) (ha : DSs X pin a x) (hb : DSs X pin b y) : DS X pin (.If c a b pos) (sIf t x y) := by
  refine PS.imp (ps_if hc ha hb) fun Z σ H w => ?_
  obtain ⟨E, S, fl, E', r, e1, w⟩ := w
  simp only [sIf, Option.bind_eq_some_iff] at e1
  obtain ⟨⟨k, E1⟩, e1, e2⟩ := e1
  refine ⟨E, S, k, E1, r, e1, fun H1 S1 s1 _ => ?_⟩
  have go : ∀ ρ : SX, ρ E1 = some (fl, E') → tS X.K pin ρ Z σ H1 := fun ρ hρ => by
    refine ⟨E1, S1, fl, E', s1.env, hρ, ?_⟩
    cases fl with
    | nx => exact fun σ2 H2 S2 s2 p2 => w σ2 H2 S2 (s1.cat s2) p2
    | bk => exact fun σ2 H2 S2 s2 p2 => w σ2 H2 S2 (s1.cat s2) p2
    | ct => exact fun σ2 H2 S2 s2 p2 => w σ2 H2 S2 (s1.cat s2) p2
    | rt d => exact fun v σ2 H2 S2 T s2 p2 z o => w v σ2 H2 S2 T (s1.cat s2) p2 z (o.pre s1)
  cases k with
  | true =>
    rw [if_pos rfl] at e2
    exact iteT (go x e2)
  | false =>
    rw [if_neg Bool.false_ne_true] at e2
    exact iteF (go y e2)
/-- a, b = x, y; a, b, c = x, y, z: names -/
def sPar2 (pin : Nat → Bool) (i j : Nat) (r : OXs) : SX := fun E => (r E).bind fun s => (owns s.1).bind fun ds => match ds with
  | [d1, d2] => if (pin i || pin j) = true then none else some (.nx, (s.2.set i (some d1)).set j (some d2))
  | _ => none
def sPar3 (pin : Nat → Bool) (i j l : Nat) (r : OXs) : SX := fun E => (r E).bind fun s => (owns s.1).bind fun ds => match ds with
  | [d1, d2, d3] => if (pin i || pin j || pin l) = true then none else some (.nx, ((s.2.set i (some d1)).set j (some d2)).set l (some d3))
  | _ => none
theorem par2_ok {K : PySem.W.Frag} {i j : Nat} {ρ : OXs} {Z : Ends} {σ : L2.St} {H : Hp} (w : tS K pin (sPar2 pin i j ρ) Z σ H) : tPar i j (tOs K p ρ) Z σ H := by
  obtain ⟨E, S, fl, E', r, e1, w⟩ := w
  simp only [sPar2, Option.bind_eq_some_iff] at e1
  obtain ⟨⟨ts, E1⟩, e1, ds, e2, e3⟩ := e1
  refine ⟨E, S, ts, E1, r, e1, fun vs H1 S1 T1 s1 k1 o1 _ => ?_⟩
  match ds, e2, e3 with
  | [d1, d2], e2, e3 =>
    have e3 : (if (pin i || pin j) = true then none else some (Fl.nx, (E1.set i (some d1)).set j (some d2))) = some (fl, E') := e3
    split at e3
    · cases e3
    · rename_i hp
      cases e3
      simp only [Bool.or_eq_true, not_or, Bool.not_eq_true] at hp
      obtain ⟨v, r', A, B, rfl, z1, q, sA, sB, dAB⟩ := k1.owns e2
      obtain ⟨u, r'', C, Dd, rfl, z2, q2, sC, sD, dCD⟩ := q
      have q2 : r'' = [] := q2
      subst q2
      have sCT : Sub C T1 := fun a h => sB a (sC a h)
      have r1 := s1.env.set (i := i) z1 (o1.dj.mono sA Sub.refl) (o1.mu.sub sA)
      have dC : Disj C (tot fun l => if l = i then A else S1 l) := fun a x y => (tot_set a y).elim (fun y => dAB a y (sC a x)) (fun y => o1.dj a (sCT a x) y)
      have r2 := r1.set (i := j) z2 dC (o1.mu.sub sCT)
      refine ⟨v, u, rfl, w _ H1 _ ⟨r2, s1.frm, fun a h => ?_⟩ (PinEq.trans (PinEq.set hp.1) (PinEq.set hp.2))⟩
      rcases tot_set a h with h | h
      · exact o1.new a (sCT a h)
      · rcases tot_set a h with h | h
        · exact o1.new a (sA a h)
        · exact s1.new a h
  | [], _, e3 => cases e3
  | [_], _, e3 => cases e3
  | _ :: _ :: _ :: _, _, e3 => cases e3
theorem ds_par2 {i j : Nat} {x y : Str} {a b : Expr} {ρ : OXs} {px py pt : Pos} {kt k2 pt2} (hc : X.calm = true) (hN : X.N.Nodup) (hi : X.N[i]? = some x) (hj : X.N[j]? = some y) (hij : i ≠ j)
    (hx : X.env.scope.names.lookup x = some .local) (hy : X.env.scope.names.lookup y = some .local) (ha : DOs X p [a, b] ρ)
    (hw : swappedStores [.Tuple [.Name x px, .Name y py] kt pt] (.Tuple [a, b] k2 pt2) X.env = pure (some [x, y]))
    (hs : swapsWithSole [.Tuple [.Name x px, .Name y py] kt pt] (.Tuple [a, b] k2 pt2) pos.line X.env = pure false := by rfl) :
    DS X pin (.Assign [.Tuple [.Name x px, .Name y py] kt pt] (.Tuple [a, b] k2 pt2) pos) (sPar2 pin i j ρ) := PS.imp (ps_par hc hN hi hj hij hx hy ha hw hs) fun _ _ _ w => par2_ok w
theorem par3_ok {K : PySem.W.Frag} {i j l : Nat} {ρ : OXs} {Z : Ends} {σ : L2.St} {H : Hp} (w : tS K pin (sPar3 pin i j l ρ) Z σ H) : tPar3 i j l (tOs K p ρ) Z σ H := by
  obtain ⟨E, S, fl, E', r, e1, w⟩ := w
  simp only [sPar3, Option.bind_eq_some_iff] at e1
  obtain ⟨⟨ts, E1⟩, e1, ds, e2, e3⟩ := e1
  refine ⟨E, S, ts, E1, r, e1, fun vs H1 S1 T1 s1 k1 o1 _ => ?_⟩
  match ds, e2, e3 with
  | [d1, d2, d3], e2, e3 =>
    have e3 : (if (pin i || pin j || pin l) = true then none else some (Fl.nx, ((E1.set i (some d1)).set j (some d2)).set l (some d3))) = some (fl, E') := e3
    split at e3
    · cases e3
    · rename_i hp
      cases e3
      simp only [Bool.or_eq_true, not_or, Bool.not_eq_true] at hp
      obtain ⟨v, r', A, B, rfl, z1, q, sA, sB, dAB⟩ := k1.owns e2
      obtain ⟨u, r'', C, Dd, rfl, z2, q2, sC, sD, dCD⟩ := q
      obtain ⟨t, r3, F, Gg, rfl, z3, q3, sF, sG, dFG⟩ := q2
      have q3 : r3 = [] := q3
      subst q3
      have sCT : Sub C T1 := fun a h => sB a (sC a h)
      have sFT : Sub F T1 := fun a h => sB a (sD a (sF a h))
      have r1 := s1.env.set (i := i) z1 (o1.dj.mono sA Sub.refl) (o1.mu.sub sA)
      have dC : Disj C (tot fun l => if l = i then A else S1 l) := fun a x y => (tot_set a y).elim (fun y => dAB a y (sC a x)) (fun y => o1.dj a (sCT a x) y)
      have r2 := r1.set (i := j) z2 dC (o1.mu.sub sCT)
      have dF : Disj F (tot fun m => if m = j then C else if m = i then A else S1 m) := fun a x y => by
        rcases tot_set a y with y | y
        · exact dCD a y (sF a x)
        · rcases tot_set a y with y | y
          · exact dAB a y (sD a (sF a x))
          · exact o1.dj a (sFT a x) y
      have r3 := r2.set (i := l) z3 dF (o1.mu.sub sFT)
      refine ⟨v, u, t, rfl, w _ H1 _ ⟨r3, s1.frm, fun a h => ?_⟩ (PinEq.trans (PinEq.set hp.1.1) (PinEq.trans (PinEq.set hp.1.2) (PinEq.set hp.2)))⟩
      rcases tot_set a h with h | h
      · exact o1.new a (sFT a h)
      · rcases tot_set a h with h | h
        · exact o1.new a (sCT a h)
        · rcases tot_set a h with h | h
          · exact o1.new a (sA a h)
          · exact s1.new a h
  | [], _, e3 => cases e3
  | [_], _, e3 => cases e3
  | [_, _], _, e3 => cases e3
  | _ :: _ :: _ :: _ :: _, _, e3 => cases e3

/-! ### while -/
def sWhile (t : BX) (b : SX) : Nat → SX
  | 0 => fun _ => none
  | n + 1 => fun E => (t E).bind fun s => if s.1 = true then (b s.2).bind fun u => (match u.1 with
      | .nx => sWhile t b n u.2
      | .ct => sWhile t b n u.2
      | .bk => some (.nx, u.2)
      | .rt d => some (.rt d, u.2)) else some (.nx, s.2)
/-- what a statement's end asks, told of a state on the way -/
def EndsOk (K : PySem.W.Frag) (pin : Nat → Bool) (Z : Ends) (σ0 : L2.St) (S0 : AS) (H0 : Hp) (fl : Fl) (E' : Env) : Prop := match fl with
  | .nx => ∀ σ' H' S', Stp K σ' S0 H0 E' S' H' → PinEq pin σ0 σ' → Z.nx σ' H'
  | .bk => ∀ σ' H' S', Stp K σ' S0 H0 E' S' H' → PinEq pin σ0 σ' → Z.bk σ' H'
  | .ct => ∀ σ' H' S', Stp K σ' S0 H0 E' S' H' → PinEq pin σ0 σ' → Z.ct σ' H'
  | .rt d => ∀ v σ' H' S' T, Stp K σ' S0 H0 E' S' H' → PinEq pin σ0 σ' → Rep K H' d v T → Ow S0 H0 S' H' T → Z.rt v H'
theorem EndsOk.step {K : PySem.W.Frag} {Z : Ends} {σ0 σ1 : L2.St} {S0 : AS} {S1 : Nat → AS} {H0 H1 : Hp} {fl : Fl} {E1 E' : Env} (w : EndsOk K pin Z σ0 S0 H0 fl E') (s1 : Stp K σ1 S0 H0 E1 S1 H1) (p1 : PinEq pin σ0 σ1) : EndsOk K pin Z σ1 (tot S1) H1 fl E' := by
  cases fl with
  | nx => exact fun σ2 H2 S2 s2 p2 => w σ2 H2 S2 (s1.cat s2) (p1.trans p2)
  | bk => exact fun σ2 H2 S2 s2 p2 => w σ2 H2 S2 (s1.cat s2) (p1.trans p2)
  | ct => exact fun σ2 H2 S2 s2 p2 => w σ2 H2 S2 (s1.cat s2) (p1.trans p2)
  | rt d => exact fun v σ2 H2 S2 T s2 p2 z o => w v σ2 H2 S2 T (s1.cat s2) (p1.trans p2) z (o.pre s1)
theorem ds_while {c : Expr} {body : List Stmt} {t : BX} {b : SX} {n : Nat} (hp : PassesOwn (model X.prog X.w) X.A X.env X.xe) (hc : DT X p c t) (hb : DSs X pin body b) : DS X pin (.While c body [] pos) (sWhile t b n) := by
  refine PS.imp (ps_while hp hc hb) fun Z σ H w => ?_
  obtain ⟨E, S, fl, E', r, e1, w⟩ := w
  refine ⟨fun m σ1 H1 => ∃ E1 S1 fl E', RepE X.K H1 E1 σ1 S1 ∧ sWhile t b m E1 = some (fl, E') ∧ EndsOk X.K pin Z σ1 (tot S1) H1 fl E', ⟨n, E, S, fl, E', r, e1, w⟩, ?_⟩
  rintro m σ1 H1 ⟨E1, S1, fl, E', r1, e1, w1⟩
  cases m with
  | zero => cases e1
  | succ m =>
    have e1 : ((t E1).bind fun s => if s.1 = true then (b s.2).bind fun u => (match u.1 with
      | .nx => sWhile t b m u.2
      | .ct => sWhile t b m u.2
      | .bk => some (.nx, u.2)
      | .rt d => some (.rt d, u.2)) else some (.nx, s.2)) = some (fl, E') := e1
    rw [Option.bind_eq_some_iff] at e1
    obtain ⟨⟨k, E2⟩, e1, e2⟩ := e1
    refine ⟨E1, S1, k, E2, r1, e1, fun H2 S2 s2 _ => ?_⟩
    have w2 := w1.step s2 PinEq.refl
    cases k with
    | false =>
      have e2 : some (Fl.nx, E2) = some (fl, E') := e2
      cases e2
      exact iteF (w2 σ1 H2 S2 (Stp.refl s2.env) PinEq.refl)
    | true =>
      refine iteT ?_
      have e2 : ((b E2).bind fun u => (match u.1 with
      | .nx => sWhile t b m u.2
      | .ct => sWhile t b m u.2
      | .bk => some (.nx, u.2)
      | .rt d => some (.rt d, u.2))) = some (fl, E') := e2
      rw [Option.bind_eq_some_iff] at e2
      obtain ⟨⟨f3, E3⟩, e3, e4⟩ := e2
      refine ⟨fun σ3 H3 => ∃ E1 S1 fl E', RepE X.K H3 E1 σ3 S1 ∧ sWhile t b m E1 = some (fl, E') ∧ EndsOk X.K pin Z σ3 (tot S1) H3 fl E', fun σ3 H3 h => ⟨m, Nat.lt_succ_self m, h⟩, E2, S2, f3, E3, s2.env, e3, ?_⟩
      cases f3 with
      | nx => exact fun σ3 H3 S3 s3 p3 => ⟨E3, S3, fl, E', s3.env, e4, w2.step s3 p3⟩
      | ct => exact fun σ3 H3 S3 s3 p3 => ⟨E3, S3, fl, E', s3.env, e4, w2.step s3 p3⟩
      | bk =>
        have e4 : some (Fl.nx, E3) = some (fl, E') := e4
        cases e4
        exact w2
      | rt d =>
        have e4 : some (Fl.rt d, E3) = some (fl, E') := e4
        cases e4
        exact w2
end
end Dn
end
section
/-! Dn6: what a loop or a comprehension goes through. -/
namespace Dn
open PySem PySem.Spec L2

/-- so many turns; what each gives, asked of the slots as they are then; whether it ends there -/
structure Plan where
  n : Nat
  item : Env → Nat → Option D
  stop : Env → Bool
abbrev IX := Env → Option (Plan × Env)
/-- the slots of sl hold what they held at the begin -/
structure WalkD (K : PySem.W.Frag) (σ0 : L2.St) (sl : Nat → Bool) (pl : Plan) (J : It) (G : Hp → Prop) (T : AS) : Prop where
  stay : ∀ (H H' : Hp) (U : AS), G H → Frm U H H' → Mu H U → Disj T U → G H'
  go : ∀ (j : Nat) (H : Hp) (σ : L2.St) (E : Env) (S : Nat → AS) (d : D), j < pl.n → RepE K H E σ S → PinEq sl σ0 σ → G H → pl.item E j = some d → J.go j H ∧ ∀ x H', J.yld j H x H' → Rep K H' d x no ∧ Same H H'
  stop : ∀ (H : Hp) (σ : L2.St) (E : Env) (S : Nat → AS), RepE K H E σ S → PinEq sl σ0 σ → G H → pl.stop E = true → J.stop pl.n H
def tI (K : PySem.W.Frag) (sl : Nat → Bool) (ι : IX) : TI := fun σ H R => ∃ E S pl E', RepE K H E σ S ∧ ι E = some (pl, E') ∧
  ∀ J H' S' T G, Stp K σ (tot S) H E' S' H' → WalkD K σ sl pl J G T → G H' → Ow (tot S) H S' H' T → R J H'
abbrev DI (X : Cx) (sl : Nat → Bool) (tg e : Expr) (ι : IX) : Prop := PI X tg e (tI X.K sl ι)
theorem PI.imp {X : Cx} {tg e : Expr} {t t' : TI} (h : PI X tg e t) (i : ∀ σ H R, t' σ H R → t σ H R) : PI X tg e t' := ⟨fun pins s σ H R I w => h.run pins s σ H R I (i σ H R w)⟩

/-! ### for -/
def forGo (pl : Plan) (τ : TX) (b : SX) : Nat → Nat → SX
  | 0, _ => fun E => if pl.stop E = true then some (.nx, E) else none
  | m + 1, j => fun E => (pl.item E j).bind fun d => (τ d E).bind fun E1 => (b E1).bind fun u => match u.1 with
      | .nx => forGo pl τ b m (j + 1) u.2
      | .ct => forGo pl τ b m (j + 1) u.2
      | .bk => some (.nx, u.2)
      | .rt d => some (.rt d, u.2)
def sFor (ι : IX) (τ : TX) (b : SX) : SX := fun E => (ι E).bind fun s => forGo s.1 τ b s.1.n 0 s.2
section
variable {X : Cx} {pos : Pos} {pin sl : Nat → Bool}
theorem ds_for {tg iter : Expr} {body : List Stmt} {ι : IX} {τ : TX} {b : SX} (hp : PassesOwn (model X.prog X.w) X.A X.env X.xe) (hc : X.calm = true) (hi : DI X sl tg iter ι) (hg : DG X (fun i => sl i || pin i) tg τ) (hb : DSs X (fun i => sl i || pin i) body b)
    (hs : ∀ x, foldedSetIterable iter X.env x = pure x := by intro _; rfl) : DS X pin (.For tg iter body [] pos) (sFor ι τ b) := by
  refine PS.imp (ps_for hp hc hi hg hb hs) fun Z σ H w => ?_
  obtain ⟨E, S, fl, E', r, e1, w⟩ := w
  simp only [sFor, Option.bind_eq_some_iff] at e1
  obtain ⟨⟨pl, E1⟩, e1, e2⟩ := e1
  refine ⟨E, S, pl, E1, r, e1, fun J H1 S1 T G s1 wk g1 o1 => ?_⟩
  have w : EndsOk X.K pin Z σ (tot S) H fl E' := w
  have w1 := w.step s1 PinEq.refl
  have pS : ∀ i, sl i = true → (sl i || pin i) = true := fun i h => by rw [h]; rfl
  have pP : ∀ i, pin i = true → (sl i || pin i) = true := fun i h => by rw [h, Bool.or_true]
  refine ⟨fun i m σ2 H2 => ∃ (E2 : Env) (S2 : Nat → AS), i + m = pl.n ∧ RepE X.K H2 E2 σ2 S2 ∧ PinEq sl σ σ2 ∧ G H2 ∧ Disj T (tot S2) ∧ Mu H2 T ∧ forGo pl τ b m i E2 = some (fl, E') ∧ EndsOk X.K pin Z σ2 (tot S2) H2 fl E', ⟨pl.n, E1, S1, Nat.zero_add _, s1.env, PinEq.refl, g1, o1.dj, o1.mu, e2, w1⟩, ?_⟩
  rintro i m σ2 H2 ⟨E2, S2, hn, r2, p2, g2, d2, m2, e2, w2⟩
  cases m with
  | zero =>
    have e2 : (if pl.stop E2 = true then some (Fl.nx, E2) else none) = some (fl, E') := e2
    split at e2
    · rename_i hs
      cases e2
      have hi : i = pl.n := by omega
      subst hi
      exact .inl ⟨wk.stop H2 σ2 _ S2 r2 p2 g2 hs, w2 σ2 H2 S2 (Stp.refl r2) PinEq.refl⟩
    · cases e2
  | succ m =>
    simp only [forGo, Option.bind_eq_some_iff] at e2
    obtain ⟨d, e3, E3, e4, ⟨f5, E5⟩, e5, e6⟩ := e2
    obtain ⟨go, yld⟩ := wk.go i H2 σ2 E2 S2 d (by omega) r2 p2 g2 e3
    refine .inr ⟨go, fun σ7 H7 => ∃ (E7 : Env) (S7 : Nat → AS), (i + 1) + m = pl.n ∧ RepE X.K H7 E7 σ7 S7 ∧ PinEq sl σ σ7 ∧ G H7 ∧ Disj T (tot S7) ∧ Mu H7 T ∧ forGo pl τ b m (i + 1) E7 = some (fl, E') ∧ EndsOk X.K pin Z σ7 (tot S7) H7 fl E',
      fun σ7 H7 h => ⟨m, Nat.lt_succ_self m, h⟩, fun x H3 y => ?_⟩
    obtain ⟨z3, sm⟩ := yld x H3 y
    refine ⟨E2, S2, d, no, E3, r2.same sm, z3, Disj.no_l, Mu.nil, e4, fun σ4 H4 S4 r4 f4 n4 p4 => ?_⟩
    have s4 : Stp X.K σ4 (tot S2) H2 E3 S4 H4 := ⟨r4, fun a o h ns => f4 a o (sm a o h) fun q => q.elim ns fun q => q, fun a h => (n4 a h).elim (fun q => q.elim .inl fun q => q.elim) fun q => by
      cases e : H2 a with
      | none => exact .inr rfl
      | some o =>
        have q2 := sm a o e
        rw [q] at q2
        cases q2⟩
    have w4 := w2.step s4 (p4.sub pP)
    have g4 := wk.stay H2 H4 (tot S2) g2 s4.frm r2.mu d2
    have d4 := s4.new.disj d2 m2
    have m4 := m2.frm s4.frm d2
    refine ⟨E3, S4, f5, E5, r4, e5, ?_⟩
    have next : ∀ σ7 H7 S7, Stp X.K σ7 (tot S4) H4 E5 S7 H7 → PinEq (fun i => sl i || pin i) σ4 σ7 → forGo pl τ b m (i + 1) E5 = some (fl, E') →
        ∃ (E7 : Env) (S7 : Nat → AS), (i + 1) + m = pl.n ∧ RepE X.K H7 E7 σ7 S7 ∧ PinEq sl σ σ7 ∧ G H7 ∧ Disj T (tot S7) ∧ Mu H7 T ∧ forGo pl τ b m (i + 1) E7 = some (fl, E') ∧ EndsOk X.K pin Z σ7 (tot S7) H7 fl E' := fun σ7 H7 S7 s7 p7 e7 =>
      ⟨E5, S7, by omega, s7.env, p2.trans ((p4.sub pS).trans (p7.sub pS)), wk.stay H4 H7 (tot S4) g4 s7.frm r4.mu d4, s7.new.disj d4 m4, m4.frm s7.frm d4, e7, w4.step s7 (p7.sub pP)⟩
    cases f5 with
    | nx => exact fun σ7 H7 S7 s7 p7 => next σ7 H7 S7 s7 p7 e6
    | ct => exact fun σ7 H7 S7 s7 p7 => next σ7 H7 S7 s7 p7 e6
    | bk =>
      have e6 : some (Fl.nx, E5) = some (fl, E') := e6
      cases e6
      exact fun σ7 H7 S7 s7 p7 => w4 σ7 H7 S7 s7 (p7.sub pP)
    | rt d =>
      have e6 : some (Fl.rt d, E5) = some (fl, E') := e6
      cases e6
      exact fun v σ7 H7 S7 T7 s7 p7 z o => w4 v σ7 H7 S7 T7 s7 (p7.sub pP) z o
end

/-! ### [.. for .. in .. if ..] -/
def wipeE (E : Env) : List Nat → Env
  | [] => E
  | v :: vs => (wipeE E vs).set v none
/-- the block's own slots as they were ahead of it -/
def backE (E1 E : Env) : List Nat → Env
  | [] => E
  | v :: vs => (backE E1 E vs).set v (E1[v]?.getD none)
def compGo (pl : Plan) (own : List Nat) (τ : TX) (t : BX) (x : EX) : Nat → Nat → List D → Env → Option (List D × Env)
  | 0, _, acc, E => if pl.stop E = true then some (acc, E) else none
  | m + 1, j, acc, E => (pl.item E j).bind fun d => (τ d E).bind fun E1 => (t E1).bind fun b => if b.1 = true then (x b.2).bind fun y => compGo pl own τ t x m (j + 1) (acc ++ [y.1]) (wipeE y.2 own) else compGo pl own τ t x m (j + 1) acc (wipeE b.2 own)
def eComp (ι : IX) (own : List Nat) (τ : TX) (t : BX) (x : EX) : EX := fun E => (ι E).bind fun s => if s.1.n ≤ 100000 then (compGo s.1 own τ t x s.1.n 0 [] (wipeE s.2 own)).map fun r => (.lst r.1, backE s.2 r.2 own) else none
def bYes : BX := fun E => some (true, E)
abbrev DTs (X : Cx) (p : Bool) (ifs : List Expr) (ρ : BX) : Prop := PTs X ifs (tT X.K p ρ)
theorem PTs.imp {X : Cx} {ifs : List Expr} {t t' : TT} (h : PTs X ifs t) (i : ∀ σ H Q, t' σ H Q → t σ H Q) : PTs X ifs t' := ⟨fun pins s σ H Q I w => h.run pins s σ H Q I (i σ H Q w)⟩
theorem dts_nil {X : Cx} : DTs X true [] bYes := PTs.imp pts_nil fun σ H Q w => by
  obtain ⟨E, S, b, E', r, e1, w⟩ := w
  cases e1
  exact w H S (Stp.refl r) fun _ => Same.refl H
theorem dts_one {X : Cx} {p : Bool} {c : Expr} {t : BX} (h : DT X p c t) : DTs X p [c] t := pts_one h
section
variable {K : PySem.W.Frag} {H H' : Hp} {E E1 : Env} {σ : L2.St} {S : Nat → AS}
theorem wipeE_length : ∀ vs : List Nat, (wipeE E vs).length = E.length
  | [] => rfl
  | v :: vs => by
    unfold wipeE
    rw [List.length_set, wipeE_length vs]
theorem wipeE_at : ∀ {vs : List Nat} {i : Nat} {d : D}, (wipeE E vs)[i]? = some (some d) → E[i]? = some (some d) ∧ i ∉ vs
  | [], _, _, h => ⟨h, by simp⟩
  | v :: vs, i, d, h => by
    unfold wipeE at h
    by_cases hi : v = i
    · subst hi
      by_cases hl : v < (wipeE E vs).length
      · rw [List.getElem?_set_self hl] at h
        cases h
      · rw [List.getElem?_eq_none (by simpa using hl)] at h
        cases h
    · rw [List.getElem?_set_ne hi] at h
      obtain ⟨h1, h2⟩ := wipeE_at h
      exact ⟨h1, by simp only [List.mem_cons, not_or]; exact ⟨fun z => hi z.symm, h2⟩⟩
theorem wipe_at {vs : List Nat} {i : Nat} (h : i ∉ vs) : (wipe σ vs)[i]? = σ[i]? := by
  induction vs with
  | nil => rfl
  | cons v vs ih =>
    simp only [List.mem_cons, not_or] at h
    unfold wipe
    rw [List.getElem?_set_ne (Ne.symm h.1)]
    exact ih h.2
/-- the block's slots: its own ones forgotten -/
def keepS (S : Nat → AS) (vs : List Nat) : Nat → AS := fun i a => i ∉ vs ∧ S i a
theorem keepS_sub {vs : List Nat} : Sub (tot (keepS S vs)) (tot S) := fun a ⟨i, _, h⟩ => ⟨i, h⟩
theorem RepE.wiped (r : RepE K H E σ S) (vs : List Nat) : RepE K H (wipeE E vs) (wipe σ vs) (keepS S vs) where
  len := by rw [wipeE_length, wipe_length]; exact r.len
  at_ := fun i d e => by
    obtain ⟨h1, h2⟩ := wipeE_at e
    obtain ⟨v, h3, h4⟩ := r.at_ i d h1
    exact ⟨v, by rw [wipe_at h2]; exact h3, h4.sub fun a q => ⟨h2, q⟩⟩
  dj := fun i j ne a x y => r.dj i j ne a x.2 y.2
  mu := r.mu.sub keepS_sub
theorem backE_length : ∀ vs : List Nat, (backE E1 E vs).length = E.length
  | [] => rfl
  | v :: vs => by
    unfold backE
    rw [List.length_set, backE_length vs]
theorem backE_at : ∀ {vs : List Nat} {i : Nat} {d : D}, (backE E1 E vs)[i]? = some (some d) → (i ∉ vs ∧ E[i]? = some (some d)) ∨ (i ∈ vs ∧ E1[i]? = some (some d))
  | [], _, _, h => .inl ⟨by simp, h⟩
  | v :: vs, i, d, h => by
    unfold backE at h
    by_cases hi : v = i
    · subst hi
      by_cases hl : v < (backE E1 E vs).length
      · rw [List.getElem?_set_self hl] at h
        refine .inr ⟨List.mem_cons_self, ?_⟩
        cases q : E1[v]? with
        | none => rw [q] at h; cases h
        | some o => rw [q] at h; exact h
      · rw [List.getElem?_eq_none (by simpa using hl)] at h
        cases h
    · rw [List.getElem?_set_ne hi] at h
      rcases backE_at h with ⟨h1, h2⟩ | ⟨h1, h2⟩
      · exact .inl ⟨by simp only [List.mem_cons, not_or]; exact ⟨fun z => hi z.symm, h1⟩, h2⟩
      · exact .inr ⟨List.mem_cons_of_mem _ h1, h2⟩
theorem RepL.snoc : ∀ {ds : List D} {vs : List V} {T U : AS} {d : D} {v : V}, RepL K H ds vs T → Rep K H d v U → Disj U T → RepL K H (ds ++ [d]) (vs ++ [v]) (un T U)
  | [], vs, T, U, d, v, h, q, dj => by
    have h : vs = [] := h
    subst h
    exact ⟨v, [], U, no, rfl, q, rfl, fun a z => .inr z, no_sub, Disj.no_r⟩
  | x :: ds, _, T, U, d, v, h, q, dj => by
    obtain ⟨w, vs, T1, T2, rfl, h1, h2, s1, s2, d12⟩ := h
    refine ⟨w, _, T1, un T2 U, rfl, h1, RepL.snoc h2 q (dj.mono Sub.refl s2), fun a z => .inl (s1 a z), fun a z => z.elim (fun z => .inl (s2 a z)) .inr, fun a x y => y.elim (fun y => d12 a x y) fun y => dj a y (s1 a x)⟩
end
end Dn
end
section
/-! Dn7: list comprehensions. -/
namespace Dn
open PySem PySem.Spec L2

section
variable {K : PySem.W.Frag} {σ0 σ : L2.St} {own : List Nat} {pl : Plan} {sl : Nat → Bool} {J : It} {G : Hp → Prop} {T : AS}
/-- what holds between two turns of a comprehension -/
structure CmpI (K : PySem.W.Frag) (σ : L2.St) (own : List Nat) (G : Hp → Prop) (T : AS) (U : AS) (H1 : Hp) (Dd : Addr) (i : Nat) (H2 : Hp) (E2 : Env) (S2 : Nat → AS) (acc : List D) (vs : List V) (TA : AS) : Prop where
  rep : RepE K H2 E2 (wipe σ own) S2
  g : G H2
  dT : Disj T (tot S2)
  mT : Mu H2 T
  at_ : H2 Dd = some (.lst vs)
  all : RepL K H2 acc vs TA
  nA : ¬ TA Dd
  nS : ¬ tot S2 Dd
  nT : ¬ T Dd
  dA : Disj TA (tot S2)
  mA : Mu H2 TA
  le : acc.length ≤ i
  frm : Frm U H1 H2
  nwS : News U H1 (tot S2)
  nwA : News U H1 TA
theorem frm_of_none {S U : AS} {H H' : Hp} {a : Addr} {o : HO} (f : Frm S H H') (h : H a = some o) (n : ¬ S a) : H' a = some o := f a o h n
/-- a step within a turn -/
theorem CmpI.step {U : AS} {H1 H2 H3 : Hp} {Dd : Addr} {i : Nat} {E2 E3 : Env} {S2 S3 : Nat → AS} {acc : List D} {vs : List V} {TA : AS} {σ3 : L2.St} (stay : ∀ (H H' : Hp) (U : AS), G H → Frm U H H' → Mu H U → Disj T U → G H')
    (c : CmpI K σ own G T U H1 Dd i H2 E2 S2 acc vs TA) (r3 : RepE K H3 E3 σ3 S3) (f : Frm (tot S2) H2 H3) (n : News (tot S2) H2 (tot S3)) (hw : wipe σ3 own = wipe σ own) : CmpI K σ own G T U H1 Dd i H3 (wipeE E3 own) (keepS S3 own) acc vs TA where
  rep := by rw [← hw]; exact r3.wiped own
  g := stay H2 H3 (tot S2) c.g f c.rep.mu c.dT
  dT := (n.disj c.dT c.mT).mono Sub.refl keepS_sub
  mT := c.mT.frm f c.dT
  at_ := f _ _ c.at_ c.nS
  all := c.all.frm f c.rep.mu c.dA
  nA := c.nA
  nS := fun h => by
    rcases n _ (keepS_sub _ h) with q | q
    · exact c.nS q
    · rw [c.at_] at q; cases q
  nT := c.nT
  dA := (n.disj c.dA c.mA).mono Sub.refl keepS_sub
  mA := c.mA.frm f c.dA
  le := c.le
  frm := c.frm.trans c.nwS f
  nwS := (c.nwS.trans c.frm n).sub keepS_sub
  nwA := c.nwA
end
section
variable {X : Cx} {p2 p3 : Bool}
theorem wipe_get {σ : L2.St} : ∀ {vs : List Nat} {i : Nat}, i ∈ vs → (wipe σ vs)[i]? = if i < σ.length then some none else none
  | [], _, h => by simp at h
  | v :: vs, i, h => by
    unfold wipe
    by_cases hi : v = i
    · subst hi
      by_cases hl : v < (wipe σ vs).length
      · rw [List.getElem?_set_self hl, if_pos (by rw [← wipe_length σ vs]; exact hl)]
      · rw [List.getElem?_eq_none (by simpa using hl), if_neg (by rw [← wipe_length σ vs]; exact hl)]
    · rw [List.getElem?_set_ne hi]
      refine wipe_get ?_
      rcases List.mem_cons.mp h with e | e
      · exact absurd e.symm hi
      · exact e
theorem wipe_pin {σ σ2 : L2.St} {own : List Nat} (p : PinEq (fun i => !own.contains i) (wipe σ own) σ2) : wipe σ2 own = wipe σ own := by
  refine List.ext_getElem? fun i => ?_
  have hl : σ2.length = σ.length := p.len.trans (wipe_length σ own)
  by_cases hi : i ∈ own
  · rw [wipe_get hi, wipe_get hi, hl]
  · rw [wipe_at hi]
    exact p.eq i (by simpa using hi)
theorem RepE.own1 {K : PySem.W.Frag} {H1 H2 : Hp} {E1 Ef : Env} {σ : L2.St} {S1 S2 : Nat → AS} {own : List Nat} (r1 : RepE K H1 E1 σ S1) (r2 : RepE K H2 Ef (wipe σ own) S2) (f : Frm (tot (keepS S1 own)) H1 H2) (n : News (tot (keepS S1 own)) H1 (tot S2)) :
    RepE K H2 (backE E1 Ef own) σ (fun i a => (i ∉ own ∧ S2 i a) ∨ (i ∈ own ∧ S1 i a)) := by
  have ap : ∀ i, i ∈ own → Disj (S1 i) (tot (keepS S1 own)) := fun i hi a x ⟨j, hj, y⟩ => r1.dj i j (fun e => hj (e ▸ hi)) a x y
  have m1 : Mu H1 (tot (keepS S1 own)) := r1.mu.sub keepS_sub
  refine ⟨?_, fun i d e => ?_, fun i j ne a x y => ?_, fun a ⟨i, h⟩ => ?_⟩
  · rw [backE_length, r2.len, wipe_length]
  · rcases backE_at e with ⟨h1, h2⟩ | ⟨h1, h2⟩
    · obtain ⟨v, h3, h4⟩ := r2.at_ i d h2
      rw [wipe_at h1] at h3
      exact ⟨v, h3, h4.sub fun a q => .inl ⟨h1, q⟩⟩
    · obtain ⟨v, h3, h4⟩ := r1.at_ i d h2
      exact ⟨v, h3, (h4.frm f m1 (ap i h1)).sub fun a q => .inr ⟨h1, q⟩⟩
  · rcases x with ⟨hi, x⟩ | ⟨hi, x⟩
    · rcases y with ⟨hj, y⟩ | ⟨hj, y⟩
      · exact r2.dj i j ne a x y
      · exact n.disj (ap j hj) (r1.mui j) a y ⟨i, x⟩
    · rcases y with ⟨hj, y⟩ | ⟨hj, y⟩
      · exact n.disj (ap i hi) (r1.mui i) a x ⟨j, y⟩
      · exact r1.dj i j ne a x y
  · rcases h with ⟨hi, h⟩ | ⟨hi, h⟩
    · exact r2.mu a ⟨i, h⟩
    · exact (r1.mui i).frm f (ap i hi) a h
theorem comp_ok {K : PySem.W.Frag} {sl : Nat → Bool} {own : List Nat} {ι : IX} {τ : TX} {t : BX} {x : EX} {σ : L2.St} {H : Hp} {Q : VK} (hsl : ∀ v, v ∈ own → sl v = false) (w : tD K false (eComp ι own τ t x) σ H Q) :
    tLc (tI K sl ι) (tG K (fun i => !own.contains i) τ) (tT K p2 t) (tD K p3 x) own σ H Q := by
  obtain ⟨E, S, d, E', r, w1, w⟩ := w
  simp only [eComp, Option.bind_eq_some_iff] at w1
  obtain ⟨⟨pl, E1⟩, e1, w1⟩ := w1
  split at w1
  · rename_i hn
    simp only [Option.map_eq_some_iff] at w1
    obtain ⟨⟨accF, Ef⟩, e2, ee⟩ := w1
    injection ee with ee1 ee2
    subst ee1 ee2
    refine ⟨E, S, pl, E1, r, e1, fun J H1 S1 T G s1 wk g1 o1 Dd hD => ?_⟩
    have sm1 : Same H1 (upd H1 Dd (.lst [])) := Same.upd hD
    have nD : ∀ {A : AS}, Mu H1 A → ¬ A Dd := fun m h => by
      obtain ⟨o, e, _⟩ := m _ h
      rw [hD] at e; cases e
    have gen0 : CmpI K σ own G T (tot (keepS S1 own)) H1 Dd 0 (upd H1 Dd (.lst [])) (wipeE E1 own) (keepS S1 own) [] [] no := by
      have rw0 := s1.env.wiped own
      exact { rep := rw0.same sm1, g := wk.stay _ _ no g1 (Same.frm sm1) Mu.nil Disj.no_r, dT := o1.dj.mono Sub.refl keepS_sub, mT := o1.mu.same sm1, at_ := upd_same, all := rfl, nA := fun h => h, nS := nD rw0.mu, nT := nD o1.mu,
              dA := Disj.no_l, mA := Mu.nil, le := Nat.le_refl _, frm := Same.frm sm1, nwS := News.refl, nwA := News.nil }
    have pw : PinEq sl σ (wipe σ own) := ⟨wipe_length σ own, fun i hi => wipe_at fun hm => by rw [hsl i hm] at hi; cases hi⟩
    refine ⟨fun i m H2 => ∃ (E2 : Env) (S2 : Nat → AS) (acc : List D) (vs : List V) (TA : AS), i + m = pl.n ∧ CmpI K σ own G T (tot (keepS S1 own)) H1 Dd i H2 E2 S2 acc vs TA ∧ compGo pl own τ t x m i acc E2 = some (accF, Ef),
      ⟨pl.n, _, _, _, _, _, Nat.zero_add _, gen0, e2⟩, ?_⟩
    rintro i m H2 ⟨E2, S2, acc, vs, TA, hin, c, e3⟩
    cases m with
    | zero =>
      have e3 : (if pl.stop E2 = true then some (acc, E2) else none) = some (accF, Ef) := e3
      split at e3
      · rename_i hs
        have e3 := Option.some.inj e3
        have ea : acc = accF := congrArg Prod.fst e3
        have eE : E2 = Ef := congrArg Prod.snd e3
        subst ea eE
        have hi : i = pl.n := by omega
        subst hi
        refine .inl ⟨wk.stop H2 _ E2 S2 c.rep pw c.g hs, ?_⟩
        have kS : Sub (tot (keepS S1 own)) (tot S1) := keepS_sub
        have env := s1.env.own1 c.rep c.frm c.nwS
        have sub1 : Sub (tot fun i a => (i ∉ own ∧ S2 i a) ∨ (i ∈ own ∧ S1 i a)) (un (tot S2) (tot S1)) := fun a ⟨i, h⟩ => h.elim (fun h => .inl ⟨i, h.2⟩) fun h => .inr ⟨i, h.2⟩
        have nS : News (tot S1) H1 (tot S2) := fun a h => (c.nwS a h).elim (fun q => .inl (kS a q)) .inr
        have nA : News (tot S1) H1 TA := fun a h => (c.nwA a h).elim (fun q => .inl (kS a q)) .inr
        have nE : News (tot S1) H1 (tot fun i a => (i ∉ own ∧ S2 i a) ∨ (i ∈ own ∧ S1 i a)) := fun a h => (sub1 a h).elim (nS a) .inl
        have stp : Stp K σ (tot S) H (backE E1 E2 own) (fun i a => (i ∉ own ∧ S2 i a) ∨ (i ∈ own ∧ S1 i a)) H2 := ⟨env, s1.frm.trans s1.new (c.frm.mono kS), s1.new.trans s1.frm nE⟩
        have hD1 : ¬ tot S1 Dd := nD s1.env.mu
        refine w (.ref Dd) H2 _ (un (fun b => b = Dd) TA) stp ⟨Dd, vs, TA, rfl, c.at_, .inl rfl, c.nA, fun a z => .inr z, c.all⟩ ⟨fun a z y => ?_, ?_, ?_⟩ fun h => by cases h
        · rcases z with z | z
          · have z : a = Dd := z
            subst z
            rcases sub1 a y with y | y
            · exact c.nS y
            · exact hD1 y
          · obtain ⟨j, y⟩ := y
            rcases y with ⟨hj, y⟩ | ⟨hj, y⟩
            · exact c.dA a z ⟨j, y⟩
            · rcases c.nwA a z with ⟨l, hl, q⟩ | q
              · exact s1.env.dj j l (fun e => hl (e ▸ hj)) a y q
              · obtain ⟨o, e, _⟩ := s1.env.mui j a y
                rw [q] at e; cases e
        · refine Mu.un (fun a z => ?_) c.mA
          have z : a = Dd := z
          subst z
          exact ⟨_, c.at_, rfl⟩
        · refine News.un (fun a z => ?_) (s1.new.trans s1.frm nA)
          have z : a = Dd := z
          subst z
          exact s1.frm.fresh (T := fun b => b = a) (fun b hb => by
            have hb : b = a := hb
            subst hb
            exact hD) a rfl
      · cases e3
    | succ m =>
      simp only [compGo, Option.bind_eq_some_iff] at e3
      obtain ⟨dd, e4, E3, e5, ⟨b, E4⟩, e6, e7⟩ := e3
      obtain ⟨go, yld⟩ := wk.go i H2 _ E2 S2 dd (by omega) c.rep pw c.g e4
      refine .inr ⟨go, fun H7 => ∃ (E7 : Env) (S7 : Nat → AS) (acc : List D) (vs : List V) (TA : AS), (i + 1) + m = pl.n ∧ CmpI K σ own G T (tot (keepS S1 own)) H1 Dd (i + 1) H7 E7 S7 acc vs TA ∧ compGo pl own τ t x m (i + 1) acc E7 = some (accF, Ef),
        fun H7 h => ⟨m, Nat.lt_succ_self m, h⟩, fun xv H3 y => ?_⟩
      obtain ⟨z3, sm⟩ := yld xv H3 y
      refine ⟨E2, S2, dd, no, E3, c.rep.same sm, z3, Disj.no_l, Mu.nil, e5, fun σ4 H4 S4 r4 f4 n4 p4 => ?_⟩
      have hw : wipe σ4 own = wipe σ own := wipe_pin p4
      refine ⟨hw, E3, S4, b, E4, r4, e6, fun H5 S5 s5 _ => ?_⟩
      have f24 : Frm (tot S2) H2 H4 := fun a o h ns => f4 a o (sm a o h) fun q => q.elim ns fun q => q
      have n24 : News (tot S2) H2 (tot S4) := fun a h => (n4 a h).elim (fun q => q.elim .inl fun q => q.elim) fun q => by
        cases e : H2 a with
        | none => exact .inr rfl
        | some o =>
          have q2 := sm a o e
          rw [q] at q2
          cases q2
      have f25 : Frm (tot S2) H2 H5 := f24.trans n24 s5.frm
      have n25 : News (tot S2) H2 (tot S5) := n24.trans f24 s5.new
      cases b with
      | false =>
        have e7 : compGo pl own τ t x m (i + 1) acc (wipeE E4 own) = some (accF, Ef) := e7
        have c5 := c.step wk.stay s5.env f25 n25 hw
        exact iteF ⟨wipeE E4 own, keepS S5 own, acc, vs, TA, by omega, { c5 with le := Nat.le_succ_of_le c.le }, e7⟩
      | true =>
        have e7 : ((x E4).bind fun y => compGo pl own τ t x m (i + 1) (acc ++ [y.1]) (wipeE y.2 own)) = some (accF, Ef) := e7
        rw [Option.bind_eq_some_iff] at e7
        obtain ⟨⟨yd, E6⟩, e8, e9⟩ := e7
        refine iteT ⟨E4, S5, yd, E6, s5.env, e8, fun yv H6 S6 T6 s6 z6 o6 _ => ?_⟩
        have f26 : Frm (tot S2) H2 H6 := f25.trans n25 s6.frm
        have n26 : News (tot S2) H2 (tot S6) := n25.trans f25 s6.new
        have c6 := c.step wk.stay s6.env f26 n26 hw
        have n6T : News (tot S2) H2 T6 := n25.trans f25 o6.new
        have hl : vs.length = acc.length := c6.all.length
        have hle : acc.length ≤ i := c.le
        refine ⟨vs, c6.at_, by rw [hl]; exact Nat.lt_of_le_of_lt (Nat.le_trans hle (Nat.le_trans (by omega : i ≤ pl.n) hn)) (by decide), wipeE E6 own, keepS S6 own, acc ++ [yd], vs ++ [yv], un TA T6, by omega, ?_, e9⟩
        have nDd : ¬ T6 Dd := fun h => (n6T _ h).elim c.nS fun q => by rw [c.at_] at q; cases q
        have dT6 : Disj T6 TA := fun a hx hy => (n6T a hx).elim (fun q => c.dA a hy q) fun q => by
          obtain ⟨o, e, _⟩ := c.mA a hy
          rw [q] at e; cases e
        have fD : Frm (fun b => b = Dd) H6 (upd H6 Dd (.lst (vs ++ [yv]))) := fun a o h na => by rw [upd_ne na]; exact h
        have mD : Mu H6 (fun b => b = Dd) := fun a h => by
          have h : a = Dd := h
          subst h
          exact ⟨_, c6.at_, rfl⟩
        have off : ∀ {A : AS}, ¬ A Dd → Disj A (fun b => b = Dd) := fun n a h e => by
          have e : a = Dd := e
          subst e
          exact n h
        exact { rep := c6.rep.frm fD mD (off c6.nS), g := wk.stay _ _ _ c6.g fD mD (off c6.nT), dT := c6.dT, mT := c6.mT.frm fD (off c6.nT), at_ := upd_same,
                all := (RepL.snoc c6.all z6 dT6).frm fD mD (off fun h => h.elim c6.nA nDd), nA := fun h => h.elim c6.nA nDd, nS := c6.nS, nT := c6.nT,
                dA := fun a h y => h.elim (fun h => c6.dA a h y) fun h => o6.dj a h (keepS_sub a y), mA := (c6.mA.un o6.mu).frm fD (off fun h => h.elim c6.nA nDd),
                le := by rw [List.length_append, List.length_singleton]; omega,
                frm := fun a o h ns => by
                  have na : a ≠ Dd := fun e => by subst e; rw [hD] at h; cases h
                  rw [upd_ne na]
                  exact c6.frm a o h ns,
                nwS := c6.nwS, nwA := c6.nwA.un (c.nwS.trans c.frm n6T) }
  · cases w1
/-- [elt for tg in iter if ..] -/
theorem de_comp {sl : Nat → Bool} {elt tg iter : Expr} {ifs : List Expr} {scope : Scope} {own : List (Str × Nat)} {pos : Pos} {ι : IX} {τ : TX} {t : BX} {x : EX} (hc : X.calm = true) (hN : X.N.Nodup) (ok : BlkOk X.N X.env.scope scope own) (hsl : ∀ v, v ∈ own.map (·.2) → sl v = false) (hi : DI X sl tg iter ι)
    (hg : ∀ (s : Shared) (H : Hp) (C : Addr) (cl : List (Str × Addr)) (fp : List Addr), DG (X.blk s H scope (compEnvC scope cl C X.env) fp) (fun i => !(own.map (·.2)).contains i) tg τ)
    (ht : ∀ (s : Shared) (H : Hp) (C : Addr) (cl : List (Str × Addr)) (fp : List Addr), DTs (X.blk s H scope (compEnvC scope cl C X.env) fp) p2 ifs t)
    (he : ∀ (s : Shared) (H : Hp) (C : Addr) (cl : List (Str × Addr)) (fp : List Addr), DE (X.blk s H scope (compEnvC scope cl C X.env) fp) p3 elt x) (hs : ∀ x, foldedSetIterable iter X.env x = pure x := by intro _; rfl) :
    DE X false (.ListComp elt [⟨tg, iter, ifs, 0⟩] scope pos) (eComp ι (own.map (·.2)) τ t x) := PE.imp (pe_lc hc hN hi ok hg ht he hs) fun _ _ _ w => comp_ok hsl w
/-- name = [..] -/
theorem ds_setLc {pin sl : Nat → Bool} {i : Nat} {y : Str} {py : Pos} {elt tg iter : Expr} {ifs : List Expr} {scope : Scope} {own : List (Str × Nat)} {pos spos : Pos} {ι : IX} {τ : TX} {t : BX} {x : EX} (hc : X.calm = true) (hN : X.N.Nodup) (hy : X.N[i]? = some y) (hyl : X.env.scope.names.lookup y = some .local)
    (hsw : swapsWith (.ListComp elt [⟨tg, iter, ifs, 0⟩] scope pos) (some (.Name y py)) spos.line X.env = pure true) (ok : BlkOk X.N X.env.scope scope own) (hsl : ∀ v, v ∈ own.map (·.2) → sl v = false) (hi : DI X sl tg iter ι)
    (hg : ∀ (s : Shared) (H : Hp) (C : Addr) (cl : List (Str × Addr)) (fp : List Addr), DG (X.blk s H scope (compEnvC scope cl C X.env) fp) (fun i => !(own.map (·.2)).contains i) tg τ)
    (ht : ∀ (s : Shared) (H : Hp) (C : Addr) (cl : List (Str × Addr)) (fp : List Addr), DTs (X.blk s H scope (compEnvC scope cl C X.env) fp) p2 ifs t)
    (he : ∀ (s : Shared) (H : Hp) (C : Addr) (cl : List (Str × Addr)) (fp : List Addr), DE (X.blk s H scope (compEnvC scope cl C X.env) fp) p3 elt x) (hs : ∀ x, foldedSetIterable iter X.env x = pure x := by intro _; rfl) :
    DS X pin (.Assign [.Name y py] (.ListComp elt [⟨tg, iter, ifs, 0⟩] scope pos) spos) (sAsg (eComp ι (own.map (·.2)) τ t x) (gN pin i)) :=
  PS.imp (ps_setLc hc hN hy hyl hsw hi ok hg ht he hs) fun Z σ H w => by
    have q := asgn_ok (p := false) w
    exact comp_ok (p2 := p2) (p3 := p3) hsl (by
      obtain ⟨E, S, d, E', r, e1, k⟩ := q
      exact ⟨E, S, d, E', r, e1, k⟩)
end
end Dn
end
section
/-! Dn8: lists, tuples, ranges, enumerate, zip gone through. -/
namespace Dn
open PySem PySem.Spec L2

/-- where items are taken from: a value of its own, or the list in a slot -/
inductive Sc where
  | own (d : D) | sl (i : Nat)
def Sc.items (s : Sc) (E : Env) : Option (List D) := match s with
  | .own d => d.seq?
  | .sl i => match E[i]? with
    | some (some (.lst xs)) => some xs
    | _ => none
/-- what cannot be changed is taken as it is -/
def scOf (tk : Tk) (E : Env) : Option Sc := match tk with
  | .own d => some (.own d)
  | .slot i => match E[i]? with
    | some (some d) => if d.imm = true then some (.own d) else match d with
      | .lst _ => some (.sl i)
      | _ => none
    | _ => none
def Sc.item (s : Sc) (n : Nat) (E : Env) (j : Nat) : Option D := (s.items E).bind fun xs => if xs.length = n then xs[j]?.bind fun x => if x.imm = true then some x else none else none
def Sc.stop (s : Sc) (n : Nat) (E : Env) : Bool := match s.items E with
  | some xs => xs.length == n
  | none => false
def TkIn (sl : Nat → Bool) : Tk → Prop
  | .own _ => True
  | .slot i => sl i = true
/-- a source at the address a -/
structure ScOk (K : PySem.W.Frag) (σ0 : L2.St) (sl : Nat → Bool) (s : Sc) (n : Nat) (a : Addr) (lst : Bool) (G : Hp → Prop) (T : AS) : Prop where
  stay : ∀ (H H' : Hp) (U : AS), G H → Frm U H H' → Mu H U → Disj T U → G H'
  at_ : ∀ (H : Hp) (σ : L2.St) (E : Env) (S : Nat → AS) (xs : List D), RepE K H E σ S → PinEq sl σ0 σ → G H → s.items E = some xs → ∃ vs T', RepL K H xs vs T' ∧ (if lst = true then SqL K H a vs else SqT K H a vs)
section
variable {K : PySem.W.Frag} {σ : L2.St} {sl : Nat → Bool} {H : Hp} {E : Env} {S : Nat → AS}
theorem scOk {tk : Tk} {v : V} {T : AS} {s : Sc} {xs : List D} (r : RepE K H E σ S) (k : TkOk K H σ tk v T) (hin : TkIn sl tk) (e : scOf tk E = some s) (e2 : s.items E = some xs) :
    ∃ a lst T' G, v = .ref a ∧ Sub T' T ∧ ScOk K σ sl s xs.length a lst G T' ∧ G H := by
  have own : ∀ (d : D) (U : AS), Rep K H d v U → d.seq? = some xs → Sub U T → ∃ a lst T' G, v = .ref a ∧ Sub T' T ∧ ScOk K σ sl (.own d) xs.length a lst G T' ∧ G H := by
    intro d U z e s
    have key : ∀ (a : Addr) (b : Bool), v = .ref a → (∀ H' : Hp, Rep K H' d v U → ∃ vs T', RepL K H' xs vs T' ∧ (if b = true then SqL K H' a vs else SqT K H' a vs)) → ∃ a lst T' G, v = .ref a ∧ Sub T' T ∧ ScOk K σ sl (.own d) xs.length a lst G T' ∧ G H := fun a b ev h =>
      ⟨a, b, U, fun H' => Rep K H' d v U, ev, s, ⟨fun H1 H2 W g f m dj => g.frm f m dj, fun H1 σ1 E1 S1 ys _ _ g ey => by
        have ey : d.seq? = some ys := ey
        rw [e] at ey
        cases ey
        exact h H1 g⟩, z⟩
    cases d with
    | tup ys =>
      obtain ⟨a, vs, ev, _⟩ := z
      exact key a false ev fun H' z' => by
        cases e
        obtain ⟨a', vs', ev', q, l⟩ := z'
        rw [ev] at ev'; cases ev'
        exact ⟨vs', _, l, q.seq⟩
    | lst ys =>
      obtain ⟨a, vs, _, ev, _⟩ := z
      exact key a true ev fun H' z' => by
        cases e
        obtain ⟨a', vs', _, ev', q, _, _, _, l⟩ := z'
        rw [ev] at ev'; cases ev'
        exact ⟨vs', _, l, SqL.of q⟩
    | frz ys =>
      obtain ⟨a, vs, ev, _⟩ := z
      exact key a true ev fun H' z' => by
        cases e
        obtain ⟨a', vs', ev', q, l⟩ := z'
        rw [ev] at ev'; cases ev'
        exact ⟨vs', _, l, q.seq⟩
    | non => cases e
    | bl _ => cases e
    | int _ => cases e
    | str _ => cases e
    | dcK _ => cases e
    | dcT _ => cases e
  cases tk with
  | own d =>
    cases e
    exact own d T k e2 Sub.refl
  | slot i =>
    have k : σ[i]? = some (some v) := k
    have e : (match E[i]? with
      | some (some d) => if d.imm = true then some (Sc.own d) else match d with
        | .lst _ => some (.sl i)
        | _ => none
      | _ => none) = some s := e
    · split at e
      · rename_i d ed
        obtain ⟨v', h1, h2⟩ := r.at_ i d ed
        rw [k] at h1
        have ev : v = v' := Option.some.inj (Option.some.inj h1)
        subst ev
        split at e
        · rename_i hi
          cases e
          exact own d no (h2.imm hi) e2 no_sub
        · split at e
          · rename_i ys
            cases e
            obtain ⟨a, vs, _, ev, _⟩ := h2
            refine ⟨a, true, no, fun _ => True, ev, no_sub, ⟨fun _ _ _ _ _ _ _ => trivial, fun H1 σ1 E1 S1 zs r1 p1 _ ez => ?_⟩, trivial⟩
            have ez : (match E1[i]? with
              | some (some (.lst xs)) => some xs
              | _ => none) = some zs := ez
            split at ez
            · rename_i ws ew
              cases ez
              obtain ⟨u, g1, g2⟩ := r1.at_ i _ ew
              rw [p1.eq i hin, k] at g1
              have eu : v = u := Option.some.inj (Option.some.inj g1)
              subst eu
              obtain ⟨a', vs', _, ev', q, _, _, _, l⟩ := g2
              rw [ev] at ev'; cases ev'
              exact ⟨vs', _, l, SqL.of q⟩
            · cases ez
          · cases e
      · cases e
theorem Sc.item_some {s : Sc} {n j : Nat} {d : D} (h : s.item n E j = some d) : ∃ xs, s.items E = some xs ∧ xs.length = n ∧ xs[j]? = some d ∧ d.imm = true := by
  simp only [Sc.item, Option.bind_eq_some_iff] at h
  obtain ⟨xs, e1, h⟩ := h
  split at h
  · rename_i hl
    simp only [Option.bind_eq_some_iff] at h
    obtain ⟨x, e2, h⟩ := h
    split at h
    · rename_i hi
      cases h
      exact ⟨xs, e1, hl, e2, hi⟩
    · cases h
  · cases h
theorem Sc.stop_true {s : Sc} {n : Nat} (h : s.stop n E = true) : ∃ xs, s.items E = some xs ∧ xs.length = n := by
  unfold Sc.stop at h
  split at h
  · rename_i xs e
    exact ⟨xs, e, by simpa using h⟩
  · cases h
/-- what is to be had of a source at a turn -/
theorem ScOk.get {s : Sc} {n j : Nat} {a : Addr} {lst : Bool} {G : Hp → Prop} {T : AS} {σ1 : L2.St} {d : D} (o : ScOk K σ sl s n a lst G T) (r : RepE K H E σ1 S) (p : PinEq sl σ σ1) (g : G H) (h : s.item n E j = some d) :
    ∃ vs x, (if lst = true then SqL K H a vs else SqT K H a vs) ∧ vs[j]? = some x ∧ Rep K H d x no := by
  obtain ⟨xs, e1, e2, e3, e4⟩ := Sc.item_some h
  obtain ⟨vs, T', l, q⟩ := o.at_ H σ1 E S xs r p g e1
  obtain ⟨x, U, h1, h2, _⟩ := l.get e3
  exact ⟨vs, x, q, h1, h2.imm e4⟩
theorem ScOk.end_ {s : Sc} {n : Nat} {a : Addr} {lst : Bool} {G : Hp → Prop} {T : AS} {σ1 : L2.St} (o : ScOk K σ sl s n a lst G T) (r : RepE K H E σ1 S) (p : PinEq sl σ σ1) (g : G H) (h : s.stop n E = true) :
    ∃ vs, (if lst = true then SqL K H a vs else SqT K H a vs) ∧ vs.length = n := by
  obtain ⟨xs, e1, e2⟩ := Sc.stop_true h
  obtain ⟨vs, T', l, q⟩ := o.at_ H σ1 E S xs r p g e1
  exact ⟨vs, q, l.length.trans e2⟩
end

/-! ### a list, a tuple -/
def iSeqV (K : PySem.W.Frag) (te : TE) : TI := fun σ H R => te σ H fun x H1 => ∃ a, x = .ref a ∧ (((∃ xs, SqL K H1 a xs) ∧ R (Itl K a) H1) ∨ ((∃ xs, SqT K H1 a xs) ∧ R (Itt K a) H1))
theorem pi_seqV {X : Cx} {tg l : Expr} {te : TE} (h : PE X l te) : PI X tg l (iSeqV X.K te) := by
  constructor
  intro pins s σ H R inv hw
  refine thn (h.run pins s σ H _ inv hw) ?_
  rintro v s1 ⟨x, H1, inv1, rx, a, ex, alt⟩
  subst ex
  cases rx
  have new : FpOk X pins H1 s1.heap.objs.size := inv1.fpOk (Nat.le_refl _) (inv1.hok.fresh (Nat.le_refl _))
  have only : ∀ b ∈ [s1.heap.objs.size], FpOk X pins H1 b := fun b hb => (List.mem_singleton.mp hb) ▸ new
  rcases alt with ⟨⟨xs, hq⟩, q⟩ | ⟨⟨xs, hq⟩, q⟩
  · obtain ⟨its, _, pl, _⟩ := inv1.list hq
    exact wpAny_pyIter_list pl.isList ⟨_, _, _, _, H1, rfl, inv1.kept (t' := s1.toks) fun b o e => Heap.get?_push_of_some _ e, turn_list a _, ⟨_, Heap.get?_push_size _ rfl, rfl, rfl⟩, only, q⟩
  · obtain ⟨its, _, pl, _⟩ := inv1.tuple hq
    exact wpAny_pyIter_tuple (show s1.heap.IsTuple a its.toArray from pl) ⟨_, _, _, _, H1, rfl, inv1.kept (t' := s1.toks) fun b o e => Heap.get?_push_of_some _ e, turn_tuple a _, ⟨_, Heap.get?_push_size _ rfl, rfl, rfl⟩, only, q⟩
def plSeq (s : Sc) (n : Nat) : Plan := ⟨n, s.item n, s.stop n⟩
def iSeq (x : OX) : IX := fun E => (x E).bind fun t => (scOf t.1 t.2).bind fun s => (s.items t.2).map fun xs => (plSeq s xs.length, t.2)
section
variable {X : Cx} {p : Bool} {sl : Nat → Bool} {tg e : Expr}
theorem tkin_e {ρ : EX} : ∀ E s, oE ρ E = some s → TkIn sl s.1 := fun E s h => by
  unfold oE at h
  cases q : ρ E with
  | none => rw [q] at h; cases h
  | some z => rw [q] at h; cases h; trivial
theorem tkin_v {i : Nat} (hs : sl i = true) : ∀ E s, oV i E = some s → TkIn sl s.1 := fun E s h => by
  unfold oV at h
  split at h
  · cases h; exact hs
  · cases h
theorem di_seq {x : OX} (h : DO X p e x) (hin : ∀ E s, x E = some s → TkIn sl s.1) : DI X sl tg e (iSeq x) := by
  refine PI.imp (pi_seqV h) fun σ H R w => ?_
  obtain ⟨E, S, pl, E', r, e1, w⟩ := w
  simp only [iSeq, Option.bind_eq_some_iff, Option.map_eq_some_iff] at e1
  obtain ⟨⟨tk, E1⟩, e1, s, e2, xs, e3, ee⟩ := e1
  injection ee with ee1 ee2
  subst ee1 ee2
  refine ⟨E, S, tk, E1, r, e1, fun v H1 S1 T s1 k o _ => ?_⟩
  obtain ⟨a, lst, T', G, ev, sT, ok, g⟩ := scOk (sl := sl) s1.env k (hin E _ e1) e2 e3
  refine ⟨a, ev, ?_⟩
  cases lst with
  | true =>
    obtain ⟨vs, _, _, q⟩ := ok.at_ H1 σ E1 S1 xs s1.env PinEq.refl g e3
    rw [if_pos rfl] at q
    refine .inl ⟨⟨vs, q⟩, w _ H1 S1 T' G s1 ⟨ok.stay, fun j H2 σ2 E2 S2 d hj r2 p2 g2 hi => ?_, fun H2 σ2 E2 S2 r2 p2 g2 hs => ?_⟩ g (o.sub sT)⟩
    · obtain ⟨vs, x, q, h1, h2⟩ := ok.get r2 p2 g2 hi
      rw [if_pos rfl] at q
      refine ⟨⟨vs, x, q, h1⟩, fun x' H3 y => ?_⟩
      obtain ⟨eH, y⟩ := y
      subst eH
      have z := y vs q
      rw [h1] at z
      cases z
      exact ⟨h2, Same.refl _⟩
    · obtain ⟨vs, q, hl⟩ := ok.end_ r2 p2 g2 hs
      rw [if_pos rfl] at q
      exact ⟨vs, q, Nat.le_of_eq hl⟩
  | false =>
    obtain ⟨vs, _, _, q⟩ := ok.at_ H1 σ E1 S1 xs s1.env PinEq.refl g e3
    rw [if_neg Bool.false_ne_true] at q
    refine .inr ⟨⟨vs, q⟩, w _ H1 S1 T' G s1 ⟨ok.stay, fun j H2 σ2 E2 S2 d hj r2 p2 g2 hi => ?_, fun H2 σ2 E2 S2 r2 p2 g2 hs => ?_⟩ g (o.sub sT)⟩
    · obtain ⟨vs, x, q, h1, h2⟩ := ok.get r2 p2 g2 hi
      rw [if_neg Bool.false_ne_true] at q
      refine ⟨⟨vs, x, q, h1⟩, fun x' H3 y => ?_⟩
      obtain ⟨eH, y⟩ := y
      subst eH
      have z := y vs q
      rw [h1] at z
      cases z
      exact ⟨h2, Same.refl _⟩
    · obtain ⟨vs, q, hl⟩ := ok.end_ r2 p2 g2 hs
      rw [if_neg Bool.false_ne_true] at q
      exact ⟨vs, q, Nat.le_of_eq hl⟩

/-! ### range -/
def plRng (lo : Int) (n : Nat) : Plan := ⟨n, fun _ j => some (.int (lo + (j : Nat))), fun _ => true⟩
def plDown (lo : Int) (n : Nat) : Plan := ⟨n, fun _ j => some (.int (lo - (j : Nat))), fun _ => true⟩
def fits (i : Int) : Bool := decide (-1000000 ≤ i ∧ i ≤ 1000000)
def rngPlan : List D → Option Plan
  | [.int j] => if fits j = true then some (plRng 0 j.toNat) else none
  | [.int i, .int j] => if (fits i && fits j) = true then some (plRng i (j - i).toNat) else none
  | [.int i, .int j, .int c] => if (fits i && fits j && c == -1) = true then some (plDown i (i - j).toNat) else none
  | _ => none
def iRange (n : Nat) (r : OXs) : IX := fun E => (r E).bind fun s => (rds s.1 s.2).bind fun ds => if ds.length = n then (rngPlan ds).map fun pl => (pl, s.2) else none
theorem fits_ok {i : Int} (h : fits i = true) : -(2 ^ 62) ≤ i ∧ i < 2 ^ 62 := by
  have h := of_decide_eq_true h
  omega
theorem walk_rng {K : PySem.W.Frag} {σ : L2.St} {lo : Int} {n : Nat} : WalkD K σ sl (plRng lo n) (Itr lo n) (fun _ => True) no :=
  ⟨fun _ _ _ _ _ _ _ => trivial, fun j H σ E S d hj _ _ _ h => ⟨hj, fun x H' y => by
    obtain ⟨y1, y2⟩ := y
    subst y1 y2
    have h : some (D.int (lo + (j : Nat))) = some d := h
    cases h
    exact ⟨rfl, Same.refl _⟩⟩, fun _ _ _ _ _ _ _ _ => Nat.le_refl _⟩
theorem walk_down {K : PySem.W.Frag} {σ : L2.St} {lo : Int} {n : Nat} : WalkD K σ sl (plDown lo n) (Itc lo (-1) n) (fun _ => True) no :=
  ⟨fun _ _ _ _ _ _ _ => trivial, fun j H σ E S d hj _ _ _ h => ⟨hj, fun x H' y => by
    obtain ⟨y1, y2⟩ := y
    subst y1 y2
    have h : some (D.int (lo - (j : Nat))) = some d := h
    cases h
    exact ⟨by show V.int _ = V.int _; congr 1; omega, Same.refl _⟩⟩, fun _ _ _ _ _ _ _ _ => Nat.le_refl _⟩
variable {a b c : Expr} {np pos : Pos} {r : OXs}
theorem rng_case {ds : List D} {pl : Plan} (h : rngPlan ds = some pl) : (∃ j, ds = [.int j] ∧ fits j = true ∧ pl = plRng 0 j.toNat) ∨ (∃ i j, ds = [.int i, .int j] ∧ fits i = true ∧ fits j = true ∧ pl = plRng i (j - i).toNat) ∨
    (∃ i j, ds = [.int i, .int j, .int (-1)] ∧ fits i = true ∧ fits j = true ∧ pl = plDown i (i - j).toNat) := by
  unfold rngPlan at h
  split at h
  · split at h
    · rename_i hf
      cases h
      exact .inl ⟨_, rfl, hf, rfl⟩
    · cases h
  · split at h
    · rename_i hf
      cases h
      rw [Bool.and_eq_true] at hf
      exact .inr (.inl ⟨_, _, rfl, hf.1, hf.2, rfl⟩)
    · cases h
  · split at h
    · rename_i hf
      cases h
      rw [Bool.and_eq_true, Bool.and_eq_true, beq_iff_eq] at hf
      obtain ⟨⟨h1, h2⟩, h3⟩ := hf
      subst h3
      exact .inr (.inr ⟨_, _, rfl, h1, h2, rfl⟩)
    · cases h
  · cases h
theorem rng_all {n : Nat} {σ : L2.St} {H : Hp} {R : It → Hp → Prop} (w : tI X.K sl (iRange n r) σ H R) : tOs X.K p r σ H fun vs H1 =>
    (n = 1 ∧ ∃ j : Int, vs = [.int j] ∧ fits j = true ∧ R (Itr 0 j.toNat) H1) ∨ (n = 2 ∧ ∃ i j : Int, vs = [.int i, .int j] ∧ fits i = true ∧ fits j = true ∧ R (Itr i (j - i).toNat) H1) ∨
    (n = 3 ∧ ∃ i j : Int, vs = [.int i, .int j, .int (-1)] ∧ fits i = true ∧ fits j = true ∧ R (Itc i (-1) (i - j).toNat) H1) := by
  obtain ⟨E, S, pl, E', r0, e1, w⟩ := w
  simp only [iRange, Option.bind_eq_some_iff, Option.map_eq_some_iff] at e1
  obtain ⟨⟨ts, E1⟩, e1, ds, e2, e1'⟩ := e1
  split at e1'
  case isFalse => cases e1'
  rename_i hn
  subst hn
  rw [Option.map_eq_some_iff] at e1'
  obtain ⟨pl', e3, ee⟩ := e1'
  injection ee with ee1 ee2
  subst ee1 ee2
  refine ⟨E, S, ts, E1, r0, e1, fun vs H1 S1 T s1 k o _ => ?_⟩
  have B := k.rds s1.env e2
  rcases rng_case e3 with ⟨j, hd, h1, hp⟩ | ⟨i, j, hd, h1, h2, hp⟩ | ⟨i, j, hd, h1, h2, hp⟩
  · subst hd hp
    obtain ⟨v, _, _, rfl, z, B⟩ := B
    cases B
    cases z
    exact .inl ⟨rfl, j, rfl, h1, w _ H1 S1 no _ s1 walk_rng trivial Ow.no⟩
  · subst hd hp
    obtain ⟨v, _, _, rfl, z, v2, _, _, rfl, z2, B⟩ := B
    cases B
    cases z
    cases z2
    exact .inr (.inl ⟨rfl, i, j, rfl, h1, h2, w _ H1 S1 no _ s1 walk_rng trivial Ow.no⟩)
  · subst hd hp
    obtain ⟨v, _, _, rfl, z, v2, _, _, rfl, z2, v3, _, _, rfl, z3, B⟩ := B
    cases B
    cases z
    cases z2
    cases z3
    exact .inr (.inr ⟨rfl, i, j, rfl, h1, h2, w _ H1 S1 no _ s1 walk_down trivial Ow.no⟩)
theorem tOs.imp {σ : L2.St} {H : Hp} {Q Q' : List V → Hp → Prop} (h : tOs X.K p r σ H Q) (i : ∀ vs H', Q vs H' → Q' vs H') : tOs X.K p r σ H Q' := by
  obtain ⟨E, S, tks, E', r0, e1, w⟩ := h
  exact ⟨E, S, tks, E', r0, e1, fun vs H1 S1 T s k o m => i _ _ (w vs H1 S1 T s k o m)⟩
variable {tg : Expr}
theorem di_range1 (hg : Gl X "range") (hm : X.mg "range" = none) (ha : DOs X p [a] r) (hs : starEach [a] X.env = [(false, eval a X.env)] := by rfl) : DI X sl tg (.Call (.Name "range" np) [a] [] pos) (iRange 1 r) := by
  refine PI.imp (pi_range1 hg hm ha hs) fun σ H R w => (rng_all w).imp fun vs H1 h => ?_
  rcases h with ⟨_, j, rfl, h1, q⟩ | ⟨h, _⟩ | ⟨h, _⟩
  · exact ⟨j, rfl, (fits_ok h1).1, (fits_ok h1).2, q⟩
  · cases h
  · cases h
theorem di_range2 (hg : Gl X "range") (hm : X.mg "range" = none) (ha : DOs X p [a, b] r) (hs : starEach [a, b] X.env = [(false, eval a X.env), (false, eval b X.env)] := by rfl) (hs2 : starEach [b] X.env = [(false, eval b X.env)] := by rfl) :
    DI X sl tg (.Call (.Name "range" np) [a, b] [] pos) (iRange 2 r) := by
  refine PI.imp (pi_range2 hg hm ha hs hs2) fun σ H R w => (rng_all w).imp fun vs H1 h => ?_
  rcases h with ⟨h, _⟩ | ⟨_, i, j, rfl, h1, h2, q⟩ | ⟨h, _⟩
  · cases h
  · exact ⟨i, j, rfl, ⟨(fits_ok h1).1, (fits_ok h1).2, (fits_ok h2).1, (fits_ok h2).2⟩, q⟩
  · cases h
theorem di_range3 (hg : Gl X "range") (hm : X.mg "range" = none) (ha : DOs X p [a, b, c] r)
    (hs : starEach [a, b, c] X.env = (false, eval a X.env) :: starEach [b, c] X.env := by rfl) (hpl : (backTo pos (starEach [b, c] X.env)).any (·.1) = false := by rfl) :
    DI X sl tg (.Call (.Name "range" np) [a, b, c] [] pos) (iRange 3 r) := by
  refine PI.imp (pi_range3 hg hm ha hs hpl) fun σ H R w => (rng_all w).imp fun vs H1 h => ?_
  rcases h with ⟨h, _⟩ | ⟨h, _⟩ | ⟨_, i, j, rfl, h1, h2, q⟩
  · cases h
  · cases h
  · exact ⟨i, j, -1, _, rfl, RgC.neg (fits_ok h1).1 (fits_ok h1).2 (fits_ok h2).1 (fits_ok h2).2, q⟩
end
end Dn
end
section
/-! Dn9: enumerate and zip over lists and tuples, mixed. -/
namespace Dn
open PySem PySem.Spec L2

def bIt (b : Bool) (h : Heap) (it a : Addr) (i : Nat) : Prop := if b = true then h.IsListIter it a i else h.IsTupleIter it a i
def bSq (b : Bool) (h : Heap) (a : Addr) (its : Array Value) : Prop := if b = true then h.IsList a its else h.IsTuple a its
def bSV (K : PySem.W.Frag) (b : Bool) (H : Hp) (a : Addr) (xs : List V) : Prop := if b = true then SqL K H a xs else SqT K H a xs
def bOb (b : Bool) (a : Addr) : Obj := { cls := .type (if b = true then "list_iterator" else "tuple_iterator"), data := .fields #[.ref a, .int 0 0] }
theorem bIt.at {b : Bool} {h h' : Heap} {it a : Addr} {i : Nat} (st : bIt b h it a i) (k : ∀ o, h.get? it = some o → h'.get? it = some o) : bIt b h' it a i := by
  cases b with
  | true => exact Heap.IsListIter.at (show h.IsListIter it a i from st) k
  | false => exact Heap.IsTupleIter.at (show h.IsTupleIter it a i from st) k
theorem bSq.at {b : Bool} {h h' : Heap} {a : Addr} {its : Array Value} (st : bSq b h a its) (k : ∀ o, h.get? a = some o → h'.get? a = some o) : bSq b h' a its := by
  cases b with
  | true => exact Heap.IsList.at (show h.IsList a its from st) k
  | false => exact Heap.IsTuple.at (show h.IsTuple a its from st) k
theorem bIt.ob {b : Bool} {h : Heap} {it a : Addr} {i : Nat} (st : bIt b h it a i) : ∃ o, h.get? it = some o ∧ ∀ v, o.data ≠ .cell v := by
  cases b with
  | true => obtain ⟨o, e, _, d⟩ := st; exact ⟨o, e, fun v z => by rw [d] at z; cases z⟩
  | false => obtain ⟨o, e, _, d⟩ := st; exact ⟨o, e, fun v z => by rw [d] at z; cases z⟩
theorem bSq.lt {b : Bool} {h : Heap} {a : Addr} {its : Array Value} (st : bSq b h a its) : a < h.objs.size := by
  cases b with
  | true => obtain ⟨o, e, _⟩ := st; exact Heap.lt_size e
  | false => obtain ⟨o, e, _⟩ := st; exact Heap.lt_size e
theorem bIt.of {b : Bool} {h : Heap} {it a : Addr} (e : h.get? it = some (bOb b a)) : bIt b h it a 0 := by
  cases b with
  | true => exact ⟨_, e, rfl, rfl⟩
  | false => exact ⟨_, e, rfl, rfl⟩
theorem bBegins (b : Bool) (a : Addr) (its : Array Value) : Begins (.ref a) (bOb b a) fun h => bSq b h a its := by
  cases b with
  | true => exact begins_list a its
  | false => exact begins_tuple a its
theorem bDraws {prog : Program} {w : World} {A : Around} (hh : A.handled = none) (b : Bool) (it a : Addr) (hne : a ≠ it) (its : Array Value) :
    Draws prog w A it [it, a] its.size (fun i v => its[i]? = some v) (fun i h => bIt b h it a i ∧ bSq b h a its) := by
  cases b with
  | true => exact Draws.list hh it a hne its
  | false => exact Draws.tuple hh it a hne its
section
variable {X : Cx} {pins : List (Addr × Obj)} {σ : L2.St} {H : Hp} {s : Shared}
theorem bSV.at_ {b : Bool} {a : Addr} {xs : List V} (I : Inv X pins σ H s) (h : bSV X.K b H a xs) : ∃ its : List Value, Vals xs its ∧ bSq b s.heap a its.toArray := by
  cases b with
  | true => obtain ⟨its, r, p, _⟩ := I.list h; exact ⟨its, r, p.isList⟩
  | false => obtain ⟨its, r, p, _⟩ := I.tuple h; exact ⟨its, r, p⟩
theorem bSV.inj {b : Bool} {a : Addr} {xs ys : List V} (I : Inv X pins σ H s) (h : bSV X.K b H a xs) (h' : bSV X.K b H a ys) : xs = ys := by
  cases b with
  | true => exact I.list_inj h h'
  | false => exact I.tuple_inj h h'
end

/-! ### enumerate -/
def ItE (K : PySem.W.Frag) (b : Bool) (a : Addr) : It :=
  ⟨fun i H => ∃ xs x, bSV K b H a xs ∧ xs[i]? = some x, fun i H v H' => ∃ T x, v = .ref T ∧ H T = none ∧ (∃ us, H' = upd H T (bT us [.int (i : Nat), x])) ∧ ∀ xs, bSV K b H a xs → xs[i]? = some x, fun i H => ∃ xs, bSV K b H a xs ∧ xs.length = i⟩
theorem turnE {P : Program} {w : World} {K : PySem.W.Frag} {elts : List Expr} {kk : Nat} {tpos : Pos} (b : Bool) (a e it : Addr) (hne : e ≠ it) (hae : e ≠ a) (hai : a ≠ it) :
    Turn P w K (.Tuple elts kk tpos) (ItE K b a) [e, it] e (fun i h => (∃ old, IsEnum h e it ((i : Nat) : Int) old) ∧ bIt b h it a i) where
  mem := List.mem_cons_self ..
  obj := fun i h st c hc => by
    obtain ⟨⟨old, he⟩, hi⟩ := st
    rcases List.mem_cons.mp hc with z | z
    · rw [z]; exact ⟨_, he, fun v q => nomatch q⟩
    · rw [List.mem_singleton.mp z]; exact hi.ob
  keep := fun i h h' st k => let ⟨⟨old, he⟩, hi⟩ := st; ⟨⟨old, k e (by simp) _ he⟩, hi.at fun o q => k it (by simp) o q⟩
  item := by
    intro X hP hw hK hc i pins s σ H E I hf st hg
    subst hP hw hK
    obtain ⟨⟨old, he⟩, hi⟩ := st
    obtain ⟨xs, x, hq, hx⟩ := hg
    obtain ⟨its, rv, p⟩ := hq.at_ I
    obtain ⟨u, hu, ru⟩ := rv.get hx
    have hlt : i < its.toArray.size := by
      obtain ⟨z, _⟩ := List.getElem?_eq_some_iff.mp hu
      exact z
    have hel : e < s.heap.objs.size := Heap.lt_size he
    have hil : it < s.heap.objs.size := by obtain ⟨_, q, _⟩ := hi.ob; exact Heap.lt_size q
    refine wpAny_pyNext_enum_itemD (bDraws (show X.A.in1.handled = none from I.ok.hd hc) b it a hai its.toArray) he ⟨hi, p⟩ hlt hne (fun z => by
      rcases List.mem_cons.mp z with z | z
      · exact hne z
      · exact hae (List.mem_singleton.mp z)) fun y h' tk hy ho st' hT hsz hk => ?_
    have ey : y = u := by
      have hy : its.toArray[i]? = some y := hy
      rw [List.getElem?_toArray, hu] at hy
      exact (Option.some.inj hy).symm
    subst ey
    refine ⟨_, rfl, wpAny_letOwnedTupleGo_enum (s := { s with heap := h', toks := tk + 1 }) ho fun h'' he' sb => ?_⟩
    have hT2 : h''.get? s.heap.objs.size = some { cls := .type "tuple", data := .seq #[.int i tk, y] } := (sb.2 _ (Nat.ne_of_gt hel)).trans hT
    have new : ObjOk X.prog X.w (upd H s.heap.objs.size (bT [.int i tk, y] [.int (i : Nat), x])) h'' s.heap.objs.size (bT [.int i tk, y] [.int (i : Nat), x]) :=
      bT_ok hT2 (.cons ⟨_, rfl⟩ (.cons ru .nil)) (by show 2 ≤ sizeLine; decide)
    have I1 : Inv X pins σ (upd H s.heap.objs.size (bT [.int i tk, y] [.int (i : Nat), x])) { s with heap := h'', toks := tk + 1 } :=
      I.turnedNew (ch := [e, it]) (fun c ob hb q => (sb.2 c (fun z => hb (by simp [z]))).trans (hk c ob (fun z => hb (by simp [z])) (fun z => hb (by simp [z])) q)) hf (Nat.le_refl _) new
    refine ⟨.ref s.heap.objs.size, _, I1, rfl, ⟨_, x, rfl, I.hok.fresh (Nat.le_refl _), ⟨_, rfl⟩, fun ys hy => by rw [hy.inj I hq]; exact hx⟩, ⟨⟨y, ?_⟩, st'.1.at fun o q => (sb.2 it (Ne.symm hne)).trans q⟩, fun c hcm => ?_⟩
    · have e1 : ((i + 1 : Nat) : Int) = (i : Int) + 1 := by omega
      rw [e1]; exact he'
    · have hb' : c < s.heap.objs.size := by
        rcases List.mem_cons.mp hcm with z | z
        · rw [z]; exact hel
        · rw [List.mem_singleton.mp z]; exact hil
      rw [upd_ne (Nat.ne_of_lt hb')]
      exact (hf c hcm).1
  done := by
    intro X hP hw hK hc i pins s σ H E I hf st hg
    subst hP hw hK
    obtain ⟨⟨old, he⟩, hi⟩ := st
    obtain ⟨xs, hq, hx⟩ := hg
    obtain ⟨its, rv, p⟩ := hq.at_ I
    have hl := rv.length
    have en : its.toArray.size = i := by rw [List.size_toArray, ← hl]; exact hx
    refine wpAny_pyNext_enum_endD (bDraws (show X.A.in1.handled = none from I.ok.hd hc) b it a hai its.toArray) he ⟨by rw [en]; exact hi, p⟩ fun h' eb => ⟨rfl, I.turnedL (t' := s.toks) (ch := [e, it]) (fun c o hb q => eb c o (fun z => hb (by simp [z])) q) hf⟩
  self := fun A i s Q E st h => let ⟨⟨_, he⟩, _⟩ := st; wpAny_pyIter_enum he h
theorem meetsE1 {v : Value} {o : Obj} {Hh : Heap → Prop} (B : Begins v o Hh) :
    Meets (Builtin.«enumerate.__new__» ⟨[.type "enumerate", v], []⟩) (fun _ R s => Hh s.heap ∧
      R (.ok (.ret (.ref (s.heap.push o).objs.size))) { s with heap := (s.heap.push o).push { cls := .type "enumerate", data := .fields #[.none, .bool false, .ref s.heap.objs.size, rawInt 0, .none, .none] } }) :=
  .of_wp fun prog w A R s h => by
    obtain ⟨hp, g, d, tk, os⟩ := s; obtain ⟨h1, h⟩ := h
    have hsub := sub_enumerate
    have q1 : ∀ {A2 : Around} {E2 Q2 : Value → Shared → Prop}, Q2 (.ref hp.objs.size) ⟨hp.push o, g, d, tk, os⟩ → wpAny (model prog w) A2 (pyIter v) Q2 E2 ⟨hp, g, d, tk, os⟩ := fun q => B.iter prog w _ _ ⟨hp, g, d, tk, os⟩ _ h1 q
    wp_walk using q1
    refine wpAny_stack_any fun st => wpAny_pure ?_
    split
    · rename_i c _ _ _ _ _
      cases (c == Value.type "enumerate")
      · wp_walk using q1
        exact ⟨_, rfl, h⟩
      · wp_walk using q1
        exact ⟨_, rfl, h⟩
    · wp_walk using q1
      exact ⟨_, rfl, h⟩
section
variable {prog : Program} {w : World} {A : Around} {E : Value → Shared → Prop} {s : Shared}
theorem callE1 {v : Value} {o : Obj} {Hh : Heap → Prop} {Q : Value → Shared → Prop} (B : Begins v o Hh) (h1 : Hh s.heap)
    (h : ∀ h', IsEnum h' (s.heap.objs.size + 1) s.heap.objs.size 0 .none → h'.get? s.heap.objs.size = some o → (∀ b o, s.heap.get? b = some o → h'.get? b = some o) → Q (.ref (s.heap.objs.size + 1)) { s with heap := h' }) :
    wpAny (model prog w) A (call (.type "enumerate") [v]) Q E s := by
  refine callType_new F.called_enumerate (by decide) (F.typeCall_enumerate_1 _) (F.newCall_enumerate_1 _) (fun obj => F.args_object_init_2 obj _) F.entry_enumerate_new (meetsE1 B) ⟨h1, ?_⟩
  have hz : (s.heap.push o).objs.size = s.heap.objs.size + 1 := Heap.size_push ..
  show _ ∧ _
  rw [hz]
  have he : ((s.heap.push o).push { cls := .type "enumerate", data := .fields #[.none, .bool false, .ref s.heap.objs.size, rawInt 0, .none, .none] }).get? (s.heap.objs.size + 1) = some { cls := .type "enumerate", data := .fields #[.none, .bool false, .ref s.heap.objs.size, rawInt 0, .none, .none] } := by
    rw [← hz]; exact Heap.get?_push_size _ rfl
  exact ⟨⟨_, he, rfl⟩, h _ he (Heap.get?_push_of_some _ (Heap.get?_push_size _ B.free)) fun b o x => Heap.get?_push_of_some _ (Heap.get?_push_of_some _ x)⟩
end
def iEn (K : PySem.W.Frag) (ta : TA) : TI := fun σ H R => ta σ H fun vs H1 => ∃ a b xs, vs = [.ref a] ∧ bSV K b H1 a xs ∧ R (ItE K b a) H1
theorem pi_en {X : Cx} {e : Expr} {ta : TA} {p pos tpos : Pos} {elts : List Expr} {kk : Nat} (hg : Gl X "enumerate") (hm : X.mg "enumerate" = none) (ha : PA X [e] ta) (hs : starEach [e] X.env = [(false, eval e X.env)] := by rfl) :
    PI X (.Tuple elts kk tpos) (.Call (.Name "enumerate" p) [e] [] pos) (iEn X.K ta) := by
  refine ⟨fun pins s σ H R I h => ?_⟩
  refine PyProof.Rows.Call_ (ld_blt I hg hm PyProof.Rows.boot_enumerate (PyProof.Rows.callWith_type1 (thn (ha.run pos pins s σ H _ I h) fun us s1 z => ?_) hs rfl))
  obtain ⟨vs, H1, I1, r1, a, b, xs, ex, hq, q⟩ := z
  subst ex
  cases r1 with
  | cons r rr =>
    cases rr
    cases r
    obtain ⟨its, rv, p'⟩ := hq.at_ I1
    refine callE1 (bBegins b a its.toArray) p' fun h' he hit hk => wpAny_pyIter_enum he ?_
    have I2 : Inv X pins σ H1 { s1 with heap := h' } := I1.kept (t' := s1.toks) hk
    refine ⟨s1.heap.objs.size + 1, [s1.heap.objs.size + 1, s1.heap.objs.size], _, _, H1, rfl, I2, turnE b a (s1.heap.objs.size + 1) s1.heap.objs.size (Nat.succ_ne_self _) (Nat.ne_of_gt (Nat.lt_succ_of_lt p'.lt)) (Nat.ne_of_lt p'.lt), ⟨⟨.none, he⟩, bIt.of hit⟩, fun c hcm => ?_, q⟩
    have hle : s1.heap.objs.size ≤ c := by
      rcases List.mem_cons.mp hcm with z | z
      · rw [z]; exact Nat.le_add_right _ _
      · rw [List.mem_singleton.mp z]; exact Nat.le_refl _
    exact I1.fpOk hle (I1.hok.fresh hle)

/-! ### zip -/
def ItZ (K : PySem.W.Frag) (b c : Bool) (a d : Addr) : It :=
  ⟨fun i H => ∃ xs ys x y, bSV K b H a xs ∧ bSV K c H d ys ∧ xs[i]? = some x ∧ ys[i]? = some y,
    fun i H v H' => ∃ T x y, v = .ref T ∧ H T = none ∧ (∃ us, H' = upd H T (bT us [x, y])) ∧ (∀ xs, bSV K b H a xs → xs[i]? = some x) ∧ ∀ ys, bSV K c H d ys → ys[i]? = some y,
    fun i H => ∃ xs ys, bSV K b H a xs ∧ bSV K c H d ys ∧ min xs.length ys.length = i⟩
theorem turnZ {P : Program} {w : World} {K : PySem.W.Frag} {elts : List Expr} {kk : Nat} {tpos : Pos} (b c : Bool) {a d z TI TO i1 i2 : Addr} (D : ZipSep2 z TI TO i1 i2 [i1, a] [i2, d]) (a1 : a ≠ i1) (a2 : d ≠ i2) :
    Turn P w K (.Tuple elts kk tpos) (ItZ K b c a d) [z, TI, TO, i1, i2] z (fun i h => IsZip h z TI TO .none ∧ IsTupOf2 h TI (.ref i1) (.ref i2) ∧ (∃ x y, IsTupOf2 h TO x y) ∧ bIt b h i1 a i ∧ bIt c h i2 d i) where
  mem := List.mem_cons_self ..
  obj := fun i h st q hq => by
    obtain ⟨hz, hTI, ⟨x, y, hTO⟩, h1, h2⟩ := st
    have e' : q = z ∨ q = TI ∨ q = TO ∨ q = i1 ∨ q = i2 := by simpa using hq
    rcases e' with e | e | e | e | e
    · rw [e]; exact ⟨_, hz, fun v q => nomatch q⟩
    · rw [e]; exact ⟨_, hTI, fun v q => nomatch q⟩
    · rw [e]; exact ⟨_, hTO, fun v q => nomatch q⟩
    · rw [e]; exact h1.ob
    · rw [e]; exact h2.ob
  keep := fun i h h' st k => let ⟨hz, hTI, ⟨x, y, hTO⟩, h1, h2⟩ := st
    ⟨k z (by simp) _ hz, k TI (by simp) _ hTI, ⟨x, y, k TO (by simp) _ hTO⟩, h1.at fun o q => k i1 (by simp) o q, h2.at fun o q => k i2 (by simp) o q⟩
  item := by
    intro X hP hw hK hc i pins s σ H E I hf st hg
    subst hP hw hK
    obtain ⟨hz, hTI, ⟨x0, y0, hTO⟩, h1, h2⟩ := st
    obtain ⟨xs, ys, x, y, hqx, hqy, hx, hy⟩ := hg
    obtain ⟨its, rv, p⟩ := hqx.at_ I
    obtain ⟨its2, rv2, p2⟩ := hqy.at_ I
    obtain ⟨u, hu, ru⟩ := rv.get hx
    obtain ⟨u2, hu2, ru2⟩ := rv2.get hy
    have hh : X.A.in1.handled = none := I.ok.hd hc
    have hzl : z < s.heap.objs.size := Heap.lt_size hz
    have l1 : i < its.toArray.size := (List.getElem?_eq_some_iff.mp hu).1
    have l2 : i < its2.toArray.size := (List.getElem?_eq_some_iff.mp hu2).1
    refine wpAny_pyNext_zipD2_item D (bDraws hh b i1 a a1 its.toArray) (bDraws hh c i2 d a2 its2.toArray) hz hTI hTO ⟨h1, p⟩ ⟨h2, p2⟩ l1 l2 fun w1 w2 h' tk e1 e2 z' TO' s1' s2' hT hsz hk => ?_
    have e1 : its.toArray[i]? = some w1 := e1
    have e2 : its2.toArray[i]? = some w2 := e2
    rw [List.getElem?_toArray, hu] at e1
    rw [List.getElem?_toArray, hu2] at e2
    cases e1
    cases e2
    refine ⟨_, rfl, wpAny_letOwnedTupleGo_zip (s := { s with heap := h', toks := tk }) z' fun h'' z'' sb => ?_⟩
    have hT2 : h''.get? s.heap.objs.size = some { cls := .type "tuple", data := .seq #[u, u2] } := (sb.2 _ (Nat.ne_of_gt hzl)).trans hT
    have new : ObjOk X.prog X.w (upd H s.heap.objs.size (bT [u, u2] [x, y])) h'' s.heap.objs.size (bT [u, u2] [x, y]) :=
      bT_ok hT2 (.cons ru (.cons ru2 .nil)) (by show 2 ≤ sizeLine; decide)
    have I1 : Inv X pins σ (upd H s.heap.objs.size (bT [u, u2] [x, y])) { s with heap := h'', toks := tk } :=
      I.turnedNew (ch := [z, TI, TO, i1, i2]) (fun c o hb q => (sb.2 c (fun r => hb (by simp [r]))).trans (hk c o (fun r => hb (by simp [r])) (fun r => hb (by simp [r])) (fun r => hb (by simp [r])) (fun r => hb (by simp [r])) q)) hf (Nat.le_refl _) new
    refine ⟨.ref s.heap.objs.size, _, I1, rfl, ⟨_, x, y, rfl, I.hok.fresh (Nat.le_refl _), ⟨_, rfl⟩, fun l hl => by rw [hl.inj I hqx]; exact hx, fun l hl => by rw [hl.inj I hqy]; exact hy⟩, ⟨z'', ?_, ⟨u, u2, ?_⟩, ?_, ?_⟩, fun c hcm => ?_⟩
    · exact (sb.2 _ D.TIz).trans (hk _ _ D.TIz D.TITO D.TIi1 D.TIi2 hTI)
    · exact (sb.2 _ D.TOz).trans TO'
    · exact s1'.1.at fun o q => (sb.2 _ (Ne.symm D.zi1)).trans q
    · exact s2'.1.at fun o q => (sb.2 _ (Ne.symm D.zi2)).trans q
    · have hlt : c < s.heap.objs.size := by
        have e' : c = z ∨ c = TI ∨ c = TO ∨ c = i1 ∨ c = i2 := by simpa using hcm
        rcases e' with q | q | q | q | q
        · rw [q]; exact hzl
        · rw [q]; exact Heap.lt_size hTI
        · rw [q]; exact Heap.lt_size hTO
        · rw [q]; obtain ⟨_, e1, _⟩ := h1.ob; exact Heap.lt_size e1
        · rw [q]; obtain ⟨_, e2, _⟩ := h2.ob; exact Heap.lt_size e2
      rw [upd_ne (Nat.ne_of_lt hlt)]
      exact (hf c hcm).1
  done := by
    intro X hP hw hK hc i pins s σ H E I hf st hg
    subst hP hw hK
    obtain ⟨hz, hTI, ⟨x0, y0, hTO⟩, h1, h2⟩ := st
    obtain ⟨xs, ys, hqx, hqy, hend⟩ := hg
    obtain ⟨its, rv, p⟩ := hqx.at_ I
    obtain ⟨its2, rv2, p2⟩ := hqy.at_ I
    have hh : X.A.in1.handled = none := I.ok.hd hc
    have l1 : its.toArray.size = xs.length := by rw [List.size_toArray, rv.length]
    have l2 : its2.toArray.size = ys.length := by rw [List.size_toArray, rv2.length]
    exact wpAny_pyNext_zipD2_end D (bDraws hh b i1 a a1 its.toArray) (bDraws hh c i2 d a2 its2.toArray) hz hTI hTO ⟨h1, p⟩ ⟨h2, p2⟩ (by omega) (by omega) (by omega) fun h' tk hk => ⟨rfl, I.turnedL (t' := tk) (ch := [z, TI, TO, i1, i2])
      (fun c o hb q => hk c o (fun r => hb (by simp [r])) (fun r => hb (by simp [r])) (fun r => hb (by simp [r])) (fun r => hb (by simp [r])) q) hf⟩
  self := fun A i s Q E st h => wpAny_pyIter_zip st.1 h
theorem sep_nat (n a d : Nat) (la : a < n) (ld : d < n) : ZipSep2 (n + 4 : Nat) (n + 2 : Nat) (n + 3 : Nat) (n : Nat) (n + 1 : Nat) [(n : Nat), (a : Nat)] [(n + 1 : Nat), (d : Nat)] where
  TIz := by show (n + 2 : Nat) ≠ n + 4; omega
  TOz := by show (n + 3 : Nat) ≠ n + 4; omega
  TITO := by show (n + 2 : Nat) ≠ n + 3; omega
  TIi1 := by show (n + 2 : Nat) ≠ n; omega
  mem1 := List.mem_cons_self ..
  zf1 := fun z => by
    have z : (n + 4 : Nat) ∈ [n, a] := z
    simp at z; omega
  Tf1 := fun z => by
    have z : (n + 3 : Nat) ∈ [n, a] := z
    simp at z; omega
  TIi2 := by show (n + 2 : Nat) ≠ n + 1; omega
  mem2 := List.mem_cons_self ..
  zf2 := fun z => by
    have z : (n + 4 : Nat) ∈ [n + 1, d] := z
    simp at z; omega
  Tf2 := fun z => by
    have z : (n + 3 : Nat) ∈ [n + 1, d] := z
    simp at z; omega
  sep1_2 := fun z => by
    have z : (n : Nat) ∈ [n + 1, d] := z
    simp at z; omega
  sep2_1 := fun z => by
    have z : (n + 1 : Nat) ∈ [n, a] := z
    simp at z; omega
theorem fresh5 (n c : Nat) (h : c ∈ [n + 4, n + 2, n + 3, n, n + 1]) : n ≤ c := by simp at h; omega
def iZi (K : PySem.W.Frag) (ta : TA) : TI := fun σ H R => ta σ H fun vs H1 => ∃ a d b c xs ys, vs = [.ref a, .ref d] ∧ bSV K b H1 a xs ∧ bSV K c H1 d ys ∧ R (ItZ K b c a d) H1
theorem pi_zi {X : Cx} {e e2 : Expr} {ta : TA} {p pos tpos : Pos} {elts : List Expr} {kk : Nat} (hg : Gl X "zip") (hm : X.mg "zip" = none) (ha : PA X [e, e2] ta)
    (hs : starEach [e, e2] X.env = (false, eval e X.env) :: starEach [e2] X.env := by rfl) (hpl : (backTo pos (starEach [e2] X.env)).any (·.1) = false := by rfl) :
    PI X (.Tuple elts kk tpos) (.Call (.Name "zip" p) [e, e2] [] pos) (iZi X.K ta) := by
  refine ⟨fun pins s σ H R I h => ?_⟩
  refine PyProof.Rows.Call_ (ld_blt I hg hm PyProof.Rows.boot_zip (PyProof.Rows.callWith_type1 (thn (ha.run pos pins s σ H _ I h) fun us s1 z => ?_) hs hpl))
  obtain ⟨vs, H1, I1, r1, a, d, b, c, xs, ys, ex, hqx, hqy, q⟩ := z
  subst ex
  cases r1 with
  | cons r rr =>
    cases rr with
    | cons r' rr =>
      cases rr
      cases r
      cases r'
      obtain ⟨its, rv, p1⟩ := hqx.at_ I1
      obtain ⟨its2, rv2, p2⟩ := hqy.at_ I1
      have la := p1.lt
      have ld := p2.lt
      refine zip_begins2 (bBegins b a its.toArray) (bBegins c d its2.toArray) p1 p2 fun h' hz hTI hTO h1 h2 hsz hk => wpAny_pyIter_zip hz ?_
      have I2 : Inv X pins σ H1 { s1 with heap := h' } := I1.kept (t' := s1.toks) hk
      refine ⟨s1.heap.objs.size + 4, [s1.heap.objs.size + 4, s1.heap.objs.size + 2, s1.heap.objs.size + 3, s1.heap.objs.size, s1.heap.objs.size + 1], _, _, H1, rfl, I2, turnZ b c (sep_nat s1.heap.objs.size a d la ld) (Nat.ne_of_lt la) (Nat.ne_of_lt (Nat.lt_succ_of_lt ld)), ⟨hz, hTI, ⟨_, _, hTO⟩, bIt.of h1, bIt.of h2⟩, fun c hcm => ?_, q⟩
      have hle := fresh5 s1.heap.objs.size c hcm
      exact I1.fpOk hle (I1.hok.fresh hle)

/-! ### as plans -/
def plEnum (s : Sc) (n : Nat) : Plan := ⟨n, fun E j => (s.item n E j).map fun d => .tup [.int (j : Nat), d], s.stop n⟩
def plZip (s t : Sc) (n m : Nat) : Plan := ⟨min n m, fun E j => (s.item n E j).bind fun d => (t.item m E j).map fun e => .tup [d, e], fun E => s.stop n E && t.stop m E⟩
def iEnum (r : OXs) : IX := fun E => (r E).bind fun u => match u.1 with
  | [t] => (scOf t u.2).bind fun s => (s.items u.2).map fun xs => (plEnum s xs.length, u.2)
  | _ => none
def iZip (r : OXs) : IX := fun E => (r E).bind fun u => match u.1 with
  | [t1, t2] => (scOf t1 u.2).bind fun s1 => (s1.items u.2).bind fun xs => (scOf t2 u.2).bind fun s2 => (s2.items u.2).map fun ys => (plZip s1 s2 xs.length ys.length, u.2)
  | _ => none
abbrev TksIn (sl : Nat → Bool) (r : OXs) : Prop := ∀ E s, r E = some s → ∀ t ∈ s.1, TkIn sl t
section
variable {X : Cx} {p : Bool} {sl : Nat → Bool}
theorem tkins_nil : TksIn sl osNil := fun E s h t ht => by
  cases h
  cases ht
theorem tkins_cons {x : OX} {r : OXs} (h : ∀ E s, x E = some s → TkIn sl s.1) (h2 : TksIn sl r) : TksIn sl (osCons x r) := fun E s hs t ht => by
  simp only [osCons, Option.bind_eq_some_iff, Option.map_eq_some_iff] at hs
  obtain ⟨⟨t1, E1⟩, e1, ⟨t2, E2⟩, e2, ee⟩ := hs
  subst ee
  rcases List.mem_cons.mp ht with z | z
  · rw [z]; exact h E _ e1
  · exact h2 E1 _ e2 t z
theorem rep_pair {K : PySem.W.Frag} {H : Hp} {T : Addr} {x y : V} {d e : D} {us : List Value} (h : H T = none) (h1 : Rep K H d x no) (h2 : Rep K H e y no) : Rep K (upd H T (bT us [x, y])) (.tup [d, e]) (.ref T) no := by
  have sm : Same H (upd H T (bT us [x, y])) := Same.upd h
  exact ⟨T, [x, y], rfl, .inl ⟨us, upd_same⟩, x, [y], no, no, rfl, h1.same sm, ⟨y, [], no, no, rfl, h2.same sm, rfl, no_sub, no_sub, Disj.no_l⟩, no_sub, no_sub, Disj.no_l⟩
theorem ScOk.bget {K : PySem.W.Frag} {H : Hp} {σ σ1 : L2.St} {E : Env} {S : Nat → AS} {s : Sc} {n j : Nat} {a : Addr} {b : Bool} {G : Hp → Prop} {T : AS} {d : D} (o : ScOk K σ sl s n a b G T) (r : RepE K H E σ1 S) (q : PinEq sl σ σ1) (g : G H) (h : s.item n E j = some d) :
    ∃ vs x, bSV K b H a vs ∧ vs[j]? = some x ∧ Rep K H d x no := o.get r q g h
theorem ScOk.bend {K : PySem.W.Frag} {H : Hp} {σ σ1 : L2.St} {E : Env} {S : Nat → AS} {s : Sc} {n : Nat} {a : Addr} {b : Bool} {G : Hp → Prop} {T : AS} (o : ScOk K σ sl s n a b G T) (r : RepE K H E σ1 S) (q : PinEq sl σ σ1) (g : G H) (h : s.stop n E = true) :
    ∃ vs, bSV K b H a vs ∧ vs.length = n := o.end_ r q g h
theorem di_enum {e : Expr} {r : OXs} {np pos tpos : Pos} {elts : List Expr} {kk : Nat} (hg : Gl X "enumerate") (hm : X.mg "enumerate" = none) (ha : DOs X p [e] r) (hin : TksIn sl r) (hs : starEach [e] X.env = [(false, eval e X.env)] := by rfl) :
    DI X sl (.Tuple elts kk tpos) (.Call (.Name "enumerate" np) [e] [] pos) (iEnum r) := by
  refine PI.imp (pi_en hg hm ha hs) fun σ H R w => ?_
  obtain ⟨E, S, pl, E', r0, e1, w⟩ := w
  simp only [iEnum, Option.bind_eq_some_iff] at e1
  obtain ⟨⟨ts, E1⟩, e1, e2⟩ := e1
  refine ⟨E, S, ts, E1, r0, e1, fun vs H1 S1 T s1 k o _ => ?_⟩
  split at e2
  case h_2 => cases e2
  rename_i t et
  have et : ts = [t] := et
  subst et
  simp only [Option.bind_eq_some_iff, Option.map_eq_some_iff] at e2
  obtain ⟨s, e2, xs, e3, ee⟩ := e2
  injection ee with ee1 ee2
  subst ee1 ee2
  obtain ⟨v, _, T1, T2, ev, k1, k2, sT, _⟩ := k
  cases k2
  obtain ⟨a, b, T', G, ea, sT', ok, g⟩ := scOk (sl := sl) s1.env k1 (hin E _ e1 t (List.mem_cons_self ..)) e2 e3
  subst ea
  obtain ⟨vs', _, _, q⟩ := ok.at_ H1 σ E1 S1 xs s1.env PinEq.refl g e3
  refine ⟨a, b, vs', ev, q, w _ H1 S1 T' G s1 ⟨ok.stay, fun j H2 σ2 E2 S2 d hj r2 p2 g2 hi => ?_, fun H2 σ2 E2 S2 r2 p2 g2 hs => ?_⟩ g (o.sub fun a z => sT _ (sT' _ z))⟩
  · obtain ⟨d', hd, rfl⟩ := Option.map_eq_some_iff.mp hi
    obtain ⟨us, x, q, h1, h2⟩ := ok.bget r2 p2 g2 hd
    refine ⟨⟨us, x, q, h1⟩, fun x' H3 y => ?_⟩
    obtain ⟨T3, x3, rfl, hT, ⟨us3, rfl⟩, y⟩ := y
    have z := y us q
    rw [h1] at z
    cases z
    exact ⟨rep_pair hT rfl h2, Same.upd hT⟩
  · obtain ⟨us, q, hl⟩ := ok.bend r2 p2 g2 hs
    exact ⟨us, q, hl⟩
theorem di_zip {e e2 : Expr} {r : OXs} {np pos tpos : Pos} {elts : List Expr} {kk : Nat} (hg : Gl X "zip") (hm : X.mg "zip" = none) (ha : DOs X p [e, e2] r) (hin : TksIn sl r)
    (hs : starEach [e, e2] X.env = (false, eval e X.env) :: starEach [e2] X.env := by rfl) (hpl : (backTo pos (starEach [e2] X.env)).any (·.1) = false := by rfl) :
    DI X sl (.Tuple elts kk tpos) (.Call (.Name "zip" np) [e, e2] [] pos) (iZip r) := by
  refine PI.imp (pi_zi hg hm ha hs hpl) fun σ H R w => ?_
  obtain ⟨E, S, pl, E', r0, e1, w⟩ := w
  simp only [iZip, Option.bind_eq_some_iff] at e1
  obtain ⟨⟨ts, E1⟩, e1, e2⟩ := e1
  refine ⟨E, S, ts, E1, r0, e1, fun vs H1 S1 T s1 k o _ => ?_⟩
  split at e2
  case h_2 => cases e2
  rename_i t u et
  have et : ts = [t, u] := et
  subst et
  simp only [Option.bind_eq_some_iff, Option.map_eq_some_iff] at e2
  obtain ⟨s, e2, xs, e3, s', e4, ys, e5, ee⟩ := e2
  injection ee with ee1 ee2
  subst ee1 ee2
  obtain ⟨v, _, T1, T2, ev, k1, ⟨v', _, T3, T4, ev', k2, k3, sT3, _⟩, sT, sT2, _⟩ := k
  cases k3
  subst ev'
  obtain ⟨a, b, T', G, ea, sT', ok, g⟩ := scOk (sl := sl) s1.env k1 (hin E _ e1 t (List.mem_cons_self ..)) e2 e3
  obtain ⟨a', b', T'', G', ea', sT'', ok', g'⟩ := scOk (sl := sl) s1.env k2 (hin E _ e1 u (List.mem_cons_of_mem _ (List.mem_cons_self ..))) e4 e5
  subst ea ea'
  obtain ⟨vs1, _, _, q⟩ := ok.at_ H1 σ E1 S1 xs s1.env PinEq.refl g e3
  obtain ⟨vs2, _, _, q'⟩ := ok'.at_ H1 σ E1 S1 ys s1.env PinEq.refl g' e5
  refine ⟨a, a', b, b', vs1, vs2, ev, q, q', w _ H1 S1 (un T' T'') (fun H => G H ∧ G' H) s1 ⟨fun H2 H3 W g f m dj => ⟨ok.stay H2 H3 W g.1 f m (dj.mono (fun _ z => .inl z) Sub.refl), ok'.stay H2 H3 W g.2 f m (dj.mono (fun _ z => .inr z) Sub.refl)⟩,
    fun j H2 σ2 E2 S2 d hj r2 p2 g2 hi => ?_, fun H2 σ2 E2 S2 r2 p2 g2 hs => ?_⟩ ⟨g, g'⟩ (o.sub fun a z => z.elim (fun z => sT _ (sT' _ z)) fun z => sT2 _ (sT3 _ (sT'' _ z)))⟩
  · obtain ⟨d1, hd, hi⟩ := Option.bind_eq_some_iff.mp hi
    obtain ⟨d2, hd2, rfl⟩ := Option.map_eq_some_iff.mp hi
    obtain ⟨us, x, q, h1, h2⟩ := ok.bget r2 p2 g2.1 hd
    obtain ⟨us', x', q', h1', h2'⟩ := ok'.bget r2 p2 g2.2 hd2
    refine ⟨⟨us, us', x, x', q, q', h1, h1'⟩, fun z H3 y => ?_⟩
    obtain ⟨T3, x3, y3, rfl, hT, ⟨us3, rfl⟩, y1, y2⟩ := y
    have z1 := y1 us q
    have z2 := y2 us' q'
    rw [h1] at z1
    rw [h1'] at z2
    cases z1
    cases z2
    exact ⟨rep_pair hT h2 h2', Same.upd hT⟩
  · have hs : (s.stop xs.length E2 && s'.stop ys.length E2) = true := hs
    rw [Bool.and_eq_true] at hs
    obtain ⟨us, q, hl⟩ := ok.bend r2 p2 g2.1 hs.1
    obtain ⟨us', q', hl'⟩ := ok'.bend r2 p2 g2.2 hs.2
    exact ⟨us, us', q, q', by rw [hl, hl']; rfl⟩
end
end Dn
end
section
/-! Dn10: built-in functions by trees. -/
namespace Dn
open PySem PySem.Spec L2

section
variable {K : PySem.W.Frag}
theorem repB_one {H : Hp} {d : D} {vs : List V} (h : RepB K H [d] vs) : ∃ v T, vs = [v] ∧ Rep K H d v T := by
  obtain ⟨v, _, T, rfl, h, e⟩ := h
  cases e
  exact ⟨v, T, rfl, h⟩
theorem repB_two {H : Hp} {d e : D} {vs : List V} (h : RepB K H [d, e] vs) : ∃ v T w U, vs = [v, w] ∧ Rep K H d v T ∧ Rep K H e w U := by
  obtain ⟨v, _, T, rfl, h, w, _, U, rfl, h2, q⟩ := h
  cases q
  exact ⟨v, T, w, U, rfl, h, h2⟩
/-- a list or a tuple as what is read -/
theorem Rep.lstR {H : Hp} {d : D} {v : V} {T : AS} {xs : List D} (h : Rep K H d v T) (e : d = .lst xs ∨ d = .frz xs) : ∃ a ys T', v = .ref a ∧ SqL K H a ys ∧ RepL K H xs ys T' := by
  rcases e with rfl | rfl
  · obtain ⟨a, ys, T0, rfl, q, _, _, _, l⟩ := h
    exact ⟨a, ys, _, rfl, SqL.of q, l⟩
  · obtain ⟨a, ys, rfl, q, l⟩ := h
    exact ⟨a, ys, _, rfl, q.seq, l⟩
def D.lst? : D → Option (List D)
  | .lst xs => some xs
  | .frz xs => some xs
  | _ => none
theorem Rep.lstR' {H : Hp} {d : D} {v : V} {T : AS} {xs : List D} (h : Rep K H d v T) (e : d.lst? = some xs) : ∃ a ys T', v = .ref a ∧ SqL K H a ys ∧ RepL K H xs ys T' := by
  unfold D.lst? at e
  split at e
  · cases e; exact h.lstR (.inl rfl)
  · cases e; exact h.lstR (.inr rfl)
  · cases e

/-! ### len -/
def lenD : List D → Option D
  | [.tup xs] => some (.int xs.length)
  | [.lst xs] => some (.int xs.length)
  | [.frz xs] => some (.int xs.length)
  | [.str x] => if x.length ≤ 100000 then some (.int x.length) else none
  | _ => none
theorem cad_len : CaD K (fun xs H Q => ∃ x n, xs = [x] ∧ LenV K x H n ∧ Q (.int n) H) lenD := by
  intro H ds vs d Q r e f
  unfold lenD at e
  split at e
  · cases e
    obtain ⟨v, T, rfl, a, ys, rfl, q, l⟩ := repB_one r
    exact ⟨_, _, rfl, .inr ⟨ys, q.seq, rfl⟩, f.scal (by rw [← l.length]; rfl)⟩
  · cases e
    obtain ⟨v, T, rfl, h⟩ := repB_one r
    obtain ⟨a, ys, _, rfl, q, l⟩ := h.lstR (.inl rfl)
    exact ⟨_, _, rfl, .inl ⟨ys, q, rfl⟩, f.scal (by rw [← l.length]; rfl)⟩
  · cases e
    obtain ⟨v, T, rfl, h⟩ := repB_one r
    obtain ⟨a, ys, _, rfl, q, l⟩ := h.lstR (.inr rfl)
    exact ⟨_, _, rfl, .inl ⟨ys, q, rfl⟩, f.scal (by rw [← l.length]; rfl)⟩
  · split at e
    · rename_i hz
      cases e
      obtain ⟨v, T, rfl, h⟩ := repB_one r
      cases h
      exact ⟨_, _, rfl, ⟨line5 hz, rfl⟩, f.scal rfl⟩
    · cases e
  · cases e

/-! ### sum, max, min of a list of ints -/
def sumD : List D → Option D
  | [d] => d.lst?.bind fun xs => (intsD xs).map fun ns => .int ns.sum
  | _ => none
theorem cad_sum : CaD K (rSum K) sumD := by
  intro H ds vs d Q r e f
  unfold sumD at e
  split at e
  · simp only [Option.bind_eq_some_iff, Option.map_eq_some_iff] at e
    obtain ⟨xs, e1, ns, e2, rfl⟩ := e
    obtain ⟨v, T, rfl, h⟩ := repB_one r
    obtain ⟨a, ys, _, rfl, q, l⟩ := h.lstR' e1
    exact ⟨a, ns, rfl, intsD_ok e2 l ▸ q, f.scal rfl⟩
  · cases e
def maxI : Int → List Int → Int
  | m, [] => m
  | m, n :: r => maxI (if n > m then n else m) r
def minI : Int → List Int → Int
  | m, [] => m
  | m, n :: r => minI (if n < m then n else m) r
theorem maxI_is : ∀ (r : List Int) (m : Int), (maxI m r = m ∨ maxI m r ∈ r) ∧ m ≤ maxI m r ∧ ∀ y ∈ r, y ≤ maxI m r
  | [], m => ⟨.inl rfl, Int.le_refl _, fun _ h => nomatch h⟩
  | n :: r, m => by
    have e : maxI m (n :: r) = maxI (if n > m then n else m) r := rfl
    rw [e]
    by_cases c : n > m
    · rw [if_pos c]
      obtain ⟨h1, h2, h3⟩ := maxI_is r n
      refine ⟨.inr (h1.elim (fun h => by rw [h]; exact List.mem_cons_self ..) fun h => List.mem_cons_of_mem _ h), by omega, fun y hy => ?_⟩
      rcases List.mem_cons.mp hy with z | z
      · rw [z]; exact h2
      · exact h3 y z
    · rw [if_neg c]
      obtain ⟨h1, h2, h3⟩ := maxI_is r m
      refine ⟨h1.imp id fun h => List.mem_cons_of_mem _ h, h2, fun y hy => ?_⟩
      rcases List.mem_cons.mp hy with z | z
      · rw [z]; omega
      · exact h3 y z
theorem minI_is : ∀ (r : List Int) (m : Int), (minI m r = m ∨ minI m r ∈ r) ∧ minI m r ≤ m ∧ ∀ y ∈ r, minI m r ≤ y
  | [], m => ⟨.inl rfl, Int.le_refl _, fun _ h => nomatch h⟩
  | n :: r, m => by
    have e : minI m (n :: r) = minI (if n < m then n else m) r := rfl
    rw [e]
    by_cases c : n < m
    · rw [if_pos c]
      obtain ⟨h1, h2, h3⟩ := minI_is r n
      refine ⟨.inr (h1.elim (fun h => by rw [h]; exact List.mem_cons_self ..) fun h => List.mem_cons_of_mem _ h), by omega, fun y hy => ?_⟩
      rcases List.mem_cons.mp hy with z | z
      · rw [z]; exact h2
      · exact h3 y z
    · rw [if_neg c]
      obtain ⟨h1, h2, h3⟩ := minI_is r m
      refine ⟨h1.imp id fun h => List.mem_cons_of_mem _ h, h2, fun y hy => ?_⟩
      rcases List.mem_cons.mp hy with z | z
      · rw [z]; omega
      · exact h3 y z
def mmD (g : Int → List Int → Int) : List D → Option D
  | [d] => d.lst?.bind fun xs => (intsD xs).bind fun ns => match ns with
    | n :: r => some (.int (g n r))
    | [] => none
  | _ => none
theorem cad_max : CaD K (rMax K) (mmD maxI) := by
  intro H ds vs d Q r e f
  unfold mmD at e
  split at e
  · simp only [Option.bind_eq_some_iff] at e
    obtain ⟨xs, e1, ns, e2, e3⟩ := e
    obtain ⟨v, T, rfl, h⟩ := repB_one r
    obtain ⟨a, ys, _, rfl, q, l⟩ := h.lstR' e1
    split at e3
    · rename_i n rr
      cases e3
      refine ⟨a, _, rfl, intsD_ok e2 l ▸ q, by simp, fun m hm hy => ?_⟩
      obtain ⟨h1, h2, h3⟩ := maxI_is rr n
      have em : m = maxI n rr := by
        have z1 : maxI n rr ≤ m := hy _ (by
          rcases h1 with h1 | h1
          · rw [h1]; exact List.mem_cons_self ..
          · exact List.mem_cons_of_mem _ h1)
        have z2 : m ≤ maxI n rr := by
          rcases List.mem_cons.mp hm with z | z
          · rw [z]; exact h2
          · exact h3 m z
        omega
      rw [em]
      exact f.scal rfl
    · cases e3
  · cases e
theorem cad_min : CaD K (rMin K) (mmD minI) := by
  intro H ds vs d Q r e f
  unfold mmD at e
  split at e
  · simp only [Option.bind_eq_some_iff] at e
    obtain ⟨xs, e1, ns, e2, e3⟩ := e
    obtain ⟨v, T, rfl, h⟩ := repB_one r
    obtain ⟨a, ys, _, rfl, q, l⟩ := h.lstR' e1
    split at e3
    · rename_i n rr
      cases e3
      refine ⟨a, _, rfl, intsD_ok e2 l ▸ q, by simp, fun m hm hy => ?_⟩
      obtain ⟨h1, h2, h3⟩ := minI_is rr n
      have em : m = minI n rr := by
        have z1 : m ≤ minI n rr := hy _ (by
          rcases h1 with h1 | h1
          · rw [h1]; exact List.mem_cons_self ..
          · exact List.mem_cons_of_mem _ h1)
        have z2 : minI n rr ≤ m := by
          rcases List.mem_cons.mp hm with z | z
          · rw [z]; exact h2
          · exact h3 m z
        omega
      rw [em]
      exact f.scal rfl
    · cases e3
  · cases e
/-! ### two ints, one int -/
def ii2D (g : Int → Int → Int) : List D → Option D
  | [.int i, .int j] => some (.int (g i j))
  | _ => none
theorem cad_ii2 {g : Int → Int → Int} : CaD K (fun xs H Q => ∃ i j, xs = [.int i, .int j] ∧ Q (.int (g i j)) H) (ii2D g) := by
  intro H ds vs d Q r e f
  unfold ii2D at e
  split at e
  · cases e
    obtain ⟨v, T, w, U, rfl, h1, h2⟩ := repB_two r
    cases h1
    cases h2
    exact ⟨_, _, rfl, f.scal rfl⟩
  · cases e
abbrev max2D : List D → Option D := ii2D fun i j => if j > i then j else i
abbrev min2D : List D → Option D := ii2D fun i j => if j < i then j else i
def absD : List D → Option D
  | [.int i] => some (.int (if i < 0 then -i else i))
  | _ => none
theorem cad_abs : CaD K (fun xs H Q => ∃ i, xs = [.int i] ∧ Q (.int (if i < 0 then -i else i)) H) absD := by
  intro H ds vs d Q r e f
  unfold absD at e
  split at e
  · cases e
    obtain ⟨v, T, rfl, h⟩ := repB_one r
    cases h
    exact ⟨_, rfl, f.scal rfl⟩
  · cases e
def intOfD : List D → Option D
  | [.int i] => some (.int i)
  | [.bl b] => some (.int (if b then 1 else 0))
  | _ => none
theorem cad_intOf : CaD K (fun xs H Q => (∃ i, xs = [.int i] ∧ Q (.int i) H) ∨ ∃ k, xs = [.bl k] ∧ Q (.int (if k then 1 else 0)) H) intOfD := by
  intro H ds vs d Q r e f
  unfold intOfD at e
  split at e
  · cases e
    obtain ⟨v, T, rfl, h⟩ := repB_one r
    cases h
    exact .inl ⟨_, rfl, f.scal rfl⟩
  · cases e
    obtain ⟨v, T, rfl, h⟩ := repB_one r
    cases h
    exact .inr ⟨_, rfl, f.scal rfl⟩
  · cases e
def blOfD : List D → Option D
  | [.int i] => some (.bl (i != 0))
  | [.bl b] => some (.bl b)
  | _ => none
theorem cad_blOf : CaD K (fun xs H Q => (∃ i, xs = [.int i] ∧ Q (.bl (i != 0)) H) ∨ ∃ k, xs = [.bl k] ∧ Q (.bl k) H) blOfD := by
  intro H ds vs d Q r e f
  unfold blOfD at e
  split at e
  · cases e
    obtain ⟨v, T, rfl, h⟩ := repB_one r
    cases h
    exact .inl ⟨_, rfl, f.scal rfl⟩
  · cases e
    obtain ⟨v, T, rfl, h⟩ := repB_one r
    cases h
    exact .inr ⟨_, rfl, f.scal rfl⟩
  · cases e

/-! ### all, any -/
def blsD : List D → Option (List Bool)
  | [] => some []
  | .bl b :: r => (blsD r).map fun bs => b :: bs
  | _ :: _ => none
theorem blsD_ok {H : Hp} : ∀ {xs : List D} {bs : List Bool} {vs : List V} {T : AS}, blsD xs = some bs → RepL K H xs vs T → vs = bs.map V.bl
  | [], _, vs, _, e, h => by
    cases e
    exact h
  | x :: r, _, _, _, e, h => by
    unfold blsD at e
    split at e
    · cases ‹x :: r = []›
    · rename_i b r' ee
      cases ee
      simp only [Option.map_eq_some_iff] at e
      obtain ⟨ns, e1, rfl⟩ := e
      obtain ⟨v, vs, T1, T2, rfl, h1, h2, _⟩ := h
      have h1 : v = .bl b := h1
      rw [h1, blsD_ok e1 h2, List.map_cons]
    · cases e
theorem blsD_map : ∀ bs : List Bool, blsD (bs.map D.bl) = some bs
  | [] => rfl
  | n :: r => by simp [blsD, blsD_map r]
theorem blsD_eq : ∀ {xs : List D} {bs : List Bool}, blsD xs = some bs → xs = bs.map D.bl
  | [], _, e => by cases e; rfl
  | x :: r, _, e => by
    unfold blsD at e
    split at e
    · cases ‹x :: r = []›
    · rename_i b r' ee
      cases ee
      simp only [Option.map_eq_some_iff] at e
      obtain ⟨ns, e1, rfl⟩ := e
      rw [blsD_eq e1, List.map_cons]
    · cases e
def allD : List D → Option D
  | [d] => d.lst?.bind fun xs => (blsD xs).map fun bs => .bl (bs.all id)
  | _ => none
def anyD : List D → Option D
  | [d] => d.lst?.bind fun xs => (blsD xs).map fun bs => .bl (bs.any id)
  | _ => none
theorem cad_all : CaD K (rAll K) allD := by
  intro H ds vs d Q r e f
  unfold allD at e
  split at e
  · simp only [Option.bind_eq_some_iff, Option.map_eq_some_iff] at e
    obtain ⟨xs, e1, ns, e2, rfl⟩ := e
    obtain ⟨v, T, rfl, h⟩ := repB_one r
    obtain ⟨a, ys, _, rfl, q, l⟩ := h.lstR' e1
    exact ⟨a, ns, rfl, blsD_ok e2 l ▸ q, f.scal rfl⟩
  · cases e
theorem cad_any : CaD K (rAny K) anyD := by
  intro H ds vs d Q r e f
  unfold anyD at e
  split at e
  · simp only [Option.bind_eq_some_iff, Option.map_eq_some_iff] at e
    obtain ⟨xs, e1, ns, e2, rfl⟩ := e
    obtain ⟨v, T, rfl, h⟩ := repB_one r
    obtain ⟨a, ys, _, rfl, q, l⟩ := h.lstR' e1
    exact ⟨a, ns, rfl, blsD_ok e2 l ▸ q, f.scal rfl⟩
  · cases e

/-! ### tuple(x), list(x) -/
def tupOfD : List D → Option D
  | [d] => d.seq?.bind fun xs => if D.imms xs = true then some (.tup xs) else none
  | _ => none
def rTupB (K : PySem.W.Frag) : List V → Hp → VK → Prop := fun xs H Q => ∃ a ys, xs = [V.ref a] ∧ ((SqL K H a ys ∧ ∀ l us, H l = none → Q (.ref l) (upd H l (bT us ys))) ∨ (SqT K H a ys ∧ Q (.ref a) H))
theorem call_tupB {X : Cx} : CallR X (.type "tuple") (rTupB X.K) := by
  intro pins s σ H xs us Q I r h
  obtain ⟨p, ys, rfl, h⟩ := h
  obtain ⟨u, rfl, rx⟩ := vals1 r
  cases rx
  rcases h with ⟨hq, q⟩ | ⟨hq, q⟩
  · obtain ⟨its, r', pl, hz⟩ := I.list hq
    have hlen := r'.length
    refine call_tuple_list pl.isList (fun h' kp => ?_) (by simp only [List.size_toArray] <;> omega)
    have I1 : Inv X pins σ H { s with heap := h' } := I.kept (t' := s.toks) kp
    have I2 : Inv X pins σ (upd H h'.objs.size (bT its ys)) { s with heap := h'.push { cls := .type "tuple", data := .seq its.toArray } } := I1.laid (t' := s.toks) (fun b o e => Heap.get?_push_of_some _ e) (Nat.le_refl _) (bT_ok (Heap.get?_push_size _ rfl) r' hz)
    exact ⟨.ref h'.objs.size, _, I2, rfl, q _ _ (I1.hok.fresh (Nat.le_refl _))⟩
  · obtain ⟨its, r', pl, hz⟩ := I.tuple hq
    exact call_tuple_same pl ⟨.ref p, H, I, rfl, q⟩
theorem cad_tupOf : CaD K (rTupB K) tupOfD := by
  intro H ds vs d Q r e f
  unfold tupOfD at e
  split at e
  · simp only [Option.bind_eq_some_iff] at e
    obtain ⟨xs, e1, e2⟩ := e
    split at e2
    · rename_i hi
      cases e2
      obtain ⟨v, T, rfl, h⟩ := repB_one r
      rename_i dd
      cases hd : dd.lst? with
      | some ys =>
        obtain ⟨a, zs, T', rfl, q, l⟩ := h.lstR' hd
        have ey : ys = xs := by
          cases dd <;> simp [D.lst?, D.seq?] at hd e1
          · exact hd.symm.trans e1
          · exact hd.symm.trans e1
        subst ey
        exact ⟨a, zs, rfl, .inl ⟨q, fun l' us hl => f.tup (l.imm hi) hl⟩⟩
      | none =>
        cases dd <;> simp [D.lst?, D.seq?] at hd e1
        subst e1
        obtain ⟨a, zs, rfl, q, l⟩ := h
        exact ⟨a, zs, rfl, .inr ⟨q.seq, f.scal ⟨a, zs, rfl, q, l.imm hi⟩⟩⟩
    · cases e2
  · cases e
def lstOfD : List D → Option D
  | [d] => d.seq?.bind fun xs => if D.imms xs = true then some (.lst xs) else none
  | _ => none
theorem cad_lstOf : CaD K (fun xs H Q => ∃ p ys, xs = [.ref p] ∧ (SqL K H p ys ∨ SqT K H p ys) ∧ ∀ l, H l = none → Q (.ref l) (upd H l (.lst ys))) lstOfD := by
  intro H ds vs d Q r e f
  unfold lstOfD at e
  split at e
  · simp only [Option.bind_eq_some_iff] at e
    obtain ⟨xs, e1, e2⟩ := e
    split at e2
    · rename_i hi
      cases e2
      obtain ⟨v, T, rfl, h⟩ := repB_one r
      obtain ⟨a, ys, T', rfl, q, l⟩ := h.seq e1
      exact ⟨a, ys, rfl, q, fun l' hl => f.lst (l.imm hi) hl⟩
    · cases e2
  · cases e
end

/-! ### list(range(a, b)) -/
section
variable {X : Cx} {p : Bool}
def rgD (a b : Int) : D := .lst ((List.range (b - a).toNat).map fun i => .int (a + (i : Nat)))
def small6 (i : Int) : Bool := decide (0 ≤ i ∧ i ≤ 100000)
def eRg1 (x : OX) : EX := fun E => (x E).bind fun s => (rd s.1 s.2).bind fun d => match d with
  | .int j => if small6 j = true then some (rgD 0 j, s.2) else none
  | _ => none
theorem repL_ints {K : PySem.W.Frag} {H : Hp} : ∀ ns : List Int, RepL K H (ns.map D.int) (ns.map V.int) no
  | [] => rfl
  | n :: r => ⟨.int n, _, no, no, rfl, rfl, repL_ints r, no_sub, no_sub, Disj.no_l⟩
theorem small6_ok {j : Int} (h : small6 j = true) : RgOk 0 j := by
  have h := of_decide_eq_true h
  exact ⟨by decide, by decide, by omega, by omega, by omega⟩
theorem rgD_rep {K : PySem.W.Frag} {H : Hp} {a b : Int} {q : Addr} (hq : H q = none) : Rep K (upd H q (.lst (rgV a b))) (rgD a b) (.ref q) (fun x => x = q) := by
  refine ⟨q, rgV a b, no, rfl, upd_same, rfl, fun h => h, no_sub, ?_⟩
  have e1 : (List.range (b - a).toNat).map (fun i => D.int (a + (i : Nat))) = ((List.range (b - a).toNat).map fun i : Nat => a + (i : Int)).map D.int := by rw [List.map_map]; rfl
  have e2 : rgV a b = ((List.range (b - a).toNat).map fun i : Nat => a + (i : Int)).map V.int := by unfold rgV; rw [List.map_map]; rfl
  rw [e1, e2]
  exact repL_ints _
theorem de_listRg1 {x : OX} {a : Expr} {lp rp lpos rpos : Pos} (hc : X.calm = true) (hl : Gl X "list") (ml : X.mg "list" = none) (hr : Gl X "range") (mr : X.mg "range" = none) (ha : DO X p a x)
    (na : starEach [a] X.env = (false, eval a X.env) :: starEach [] X.env := by rfl) (na2 : starEach [.Call (.Name "range" rp) [a] [] rpos] X.env = (false, eval (.Call (.Name "range" rp) [a] [] rpos) X.env) :: starEach [] X.env := by rfl) :
    DE X p (.Call (.Name "list" lp) [.Call (.Name "range" rp) [a] [] rpos] [] lpos) (eRg1 x) := by
  refine PE.imp (pe_listRg hc hl ml (prg_1 hr mr ha na) na2) fun σ H Q w => ?_
  obtain ⟨E, S, d, E', r0, w1, w⟩ := w
  simp only [eRg1, Option.bind_eq_some_iff] at w1
  obtain ⟨⟨t, E1⟩, e1, d', e2, e3⟩ := w1
  split at e3
  · rename_i j
    split at e3
    · rename_i hs
      cases e3
      refine ⟨E, S, t, E1, r0, e1, fun v H1 S1 T s1 k o m => ?_⟩
      obtain ⟨T', z⟩ := k.rd s1.env e2
      cases z
      refine ⟨j, rfl, small6_ok hs, fun q hq => ?_⟩
      exact fin_of w s1 m _ _ _ (rgD_rep hq) (Same.upd hq) (fun a h => by rw [h]; exact hq) (fun a h => by rw [h, upd_same]; exact ⟨_, rfl, rfl⟩)
    · cases e3
  · cases e3
end
end Dn
end
section
/-! Dn11: isinstance, repr, sorted, sets. -/
namespace Dn
open PySem PySem.Spec L2

/-! ### isinstance(x, T), T a built-in type -/
def D.ty : D → String
  | .non => "NoneType"
  | .bl _ => "bool"
  | .int _ => "int"
  | .str _ => "str"
  | .tup _ => "tuple"
  | .lst _ => "list"
  | .frz _ => "list"
  | .dcK _ => "dict"
  | .dcT _ => "dict"
def isiB (a b : String) : Bool := a == b || (a == "bool" && b == "int")
def tyOk (b : String) : Bool := ["bool", "int", "str", "tuple", "list", "dict"].contains b
theorem kit_all : (["NoneType", "bool", "int", "str", "tuple", "list", "dict"].all fun a => ["bool", "int", "str", "tuple", "list", "dict"].all fun b => kitB a b == some (isiB a b)) = true := by decide +kernel
theorem ty_mem (d : D) : d.ty ∈ ["NoneType", "bool", "int", "str", "tuple", "list", "dict"] := by cases d <;> simp [D.ty]
theorem kit_d {K : PySem.W.Frag} (d : D) {b : String} (h : tyOk b = true) : PySem.W.kitOne K (.type d.ty) (.type b) = some (isiB d.ty b) := by
  refine kit_ty ?_
  have h1 := List.all_eq_true.mp kit_all d.ty (ty_mem d)
  have h2 := List.all_eq_true.mp h1 b (by simpa [tyOk] using h)
  exact eq_of_beq h2
theorem rep_ty {K : PySem.W.Frag} {H : Hp} {d : D} {v : V} {T : AS} (h : Rep K H d v T) : TyX K H v (.type d.ty) := by
  cases d with
  | non => cases h; exact .base .non
  | bl b => cases h; exact .base (.bl b)
  | int i => cases h; exact .base (.int i)
  | str x => cases h; exact .base (.str x)
  | tup xs =>
    obtain ⟨a, vs, rfl, q, _⟩ := h
    rcases q with ⟨us, q⟩ | ⟨o, its, n, q, c, _⟩
    · exact .fTuple q
    · exact .kTuple q c
  | lst xs => obtain ⟨a, vs, _, rfl, q, _⟩ := h; exact .base (.lst q)
  | frz xs =>
    obtain ⟨a, vs, rfl, q, _⟩ := h
    rcases q with ⟨o, q⟩ | ⟨o, its, n, q, c, _⟩
    · exact .base (.frz q)
    · exact .kList q c
  | dcK ks => obtain ⟨a, vs, _, rfl, q, _⟩ := h; exact .base (.dK q)
  | dcT ks => obtain ⟨a, vs, _, rfl, q, _⟩ := h; exact .base (.dT q)
def isiD (b : String) (d : D) : Option D := some (.bl (isiB d.ty b))
section
variable {X : Cx} {p : Bool}
theorem de_isi {e : Expr} {x : OX} {T : String} {n : Str} {np tp pos : Pos} (ha : DO X p e x) (hg : Gl X "isinstance") (hm : X.mg "isinstance" = none) (ht : Gl X n) (mt : X.mg n = none) (hv : bootBuiltins n = some (.type T)) (ok : tyOk T = true := by decide)
    (hn : n ≠ "__name__" := by decide) (hdb : (n == ("__debug__" : Str)) = false := by decide) (hb : bootBuiltins "isinstance" = some (.builtin "isinstance") := by rfl)
    (he : starEach [e, .Name n tp] X.env = (false, eval e X.env) :: starEach [.Name n tp] X.env := by rfl) (he2 : starEach [.Name n tp] X.env = (false, eval (.Name n tp) X.env) :: starEach [] X.env := by rfl) (hpl : (backTo pos (starEach [.Name n tp] X.env)).any (·.1) = false := by rfl) :
    DE X p (.Call (.Name "isinstance" np) [e, .Name n tp] [] pos) (eUn (isiD T) x) := by
  refine PE.imp (pe_callB call_isi hg hm hb (pa_cons ha (pa_cons (pe_bltn (v := .ty T) ht mt hv rfl hn hdb) pa_nil he2) he) (by decide) (by decide) he hpl) fun σ H Q w => ?_
  obtain ⟨E, S, d, E', r0, w1, w⟩ := w
  simp only [eUn, Option.bind_eq_some_iff, Option.map_eq_some_iff] at w1
  obtain ⟨⟨t1, E1⟩, e1, u1, ru1, d', eo, ee⟩ := w1
  injection ee with ee1 ee2
  subst ee1 ee2
  refine ⟨E, S, t1, E1, r0, e1, fun v1 H1 S1 T1 s1 k1 o1 m1 => ?_⟩
  obtain ⟨T1', z1⟩ := k1.rd s1.env ru1
  cases eo
  exact ⟨v1, .ty T, _, _, _, rfl, .ty T, rep_ty z1, kit_d u1 ok, (fin_of w s1 m1).scal rfl⟩

/-! ### repr(x) -/
def D.rok (d : D) : Bool := PyData.canLay0 d.py && d.py.showable && decide (d.py.depth ≤ 50) && d.py.leavesShort 2000 && decide (d.py.bulk ≤ 4000)
def reprD : List D → Option D
  | [d] => if d.rok = true then some (.str d.py.shown) else none
  | _ => none
def rReprX (K : PySem.W.Frag) : List V → Hp → VK → Prop := fun xs H Q => ∃ v d, xs = [v] ∧ Dp K H v d ∧ (PyData.canLay0 d && d.showable && decide (d.depth ≤ 50) && d.leavesShort 2000 && decide (d.bulk ≤ 4000)) = true ∧ Q (.str d.shown) H
theorem call_reprX (hg : X.A.guards = some []) (hu : X.A.units + 60 < cLine) : CallR X (.builtin "repr") (rReprX X.K) := by
  intro pins s σ H xs us Q I r h
  obtain ⟨v, d, rfl, hd, ok, q⟩ := h
  simp only [Bool.and_eq_true, decide_eq_true_eq] at ok
  obtain ⟨⟨⟨⟨c1, c2⟩, c3⟩, c4⟩, c5⟩ := ok
  obtain ⟨u, rfl, rx⟩ := vals1 r
  have hz : d.shown.length ≤ sizeLine := by
    have z := PyData.shown_le_bulk 2000 (by decide) d c4
    have z2 : (2000 + 2) * d.bulk ≤ 2002 * 4000 := Nat.mul_le_mul (by decide) c5
    rw [sizeLine_eq]
    omega
  obtain ⟨as, hr⟩ := Dp.reads I d v u hd rx
  have fin : ∀ (h' : Heap) (k tk : Nat), (∀ b o, s.heap.get? b = some o → h'.get? b = some o) → EP X pins σ Q (.str d.shown k) { s with heap := h', toks := tk } := fun h' k tk hk => ⟨.str d.shown, H, I.kept hk, ⟨_, rfl⟩, q⟩
  cases hr with
  | none => exact PySem.P.repr_of_none (fin s.heap _ _ fun _ _ e => e)
  | bool b => exact PySem.P.repr_of_bool (fin s.heap _ _ fun _ _ e => e)
  | int i t => exact PySem.P.repr_of_int (by simpa [PyData.showable] using c2) (fin s.heap _ _ fun _ _ e => e)
  | str x t => exact PySem.P.repr_of_str (fin s.heap _ _ fun _ _ e => e) hz
  | list h1 h2 h3 h4 => exact repr_of_reads' (.list h1 h2 h3 h4) c2 (PyData.noDict_hsm (PyData.hasDict_of_canLay _ c1)) hg (by omega) (fun _ _ e => e) fin hz
  | tuple h1 h2 h3 h4 => exact repr_of_reads' (.tuple h1 h2 h3 h4) c2 (PyData.noDict_hsm (PyData.hasDict_of_canLay _ c1)) hg (by omega) (fun _ _ e => e) fin hz
  | dict h1 h2 h3 h4 h5 => cases hd
theorem cad_repr {K : PySem.W.Frag} : CaD K (rReprX K) reprD := by
  intro H ds vs d Q r e f
  unfold reprD at e
  split at e
  · split at e
    · rename_i d' ok
      cases e
      obtain ⟨v, T, rfl, h⟩ := repB_one r
      have c : PyData.canLay0 d'.py = true := by
        unfold D.rok at ok
        simp only [Bool.and_eq_true] at ok
        exact ok.1.1.1.1
      exact ⟨v, d'.py, rfl, h.dp c, ok, f.scal rfl⟩
    · cases e
  · cases e

/-! ### sorted(xs) of ints -/
def srt (ns : List Int) : List Int := ns.mergeSort fun a b => decide (a ≤ b)
theorem srt_perm (ns : List Int) : (srt ns).Perm ns := List.mergeSort_perm _ _
theorem srt_le (ns : List Int) : (srt ns).Pairwise (· ≤ ·) := by
  have h := List.pairwise_mergeSort (le := fun a b : Int => decide (a ≤ b)) (fun a b c h1 h2 => by simp only [decide_eq_true_eq] at *; omega) (fun a b => by simp only [Bool.or_eq_true, decide_eq_true_eq]; omega) ns
  exact h.imp fun h => by simpa using h
theorem srt_uniq {ns ms : List Int} (p : ms.Perm ns) (h : ms.Pairwise (· ≤ ·)) : ms = srt ns :=
  List.Perm.eq_of_pairwise (fun _ _ _ _ a b => Int.le_antisymm a b) h (srt_le ns) (p.trans (srt_perm ns).symm)
theorem srt_self {ns : List Int} (h : ns.Pairwise (· ≤ ·)) : srt ns = ns := (srt_uniq (List.Perm.refl ns) h).symm
theorem Fin.ints {K : PySem.W.Frag} {H : Hp} {ns : List Int} {Q : VK} (f : Fin K H (.lst (ns.map D.int)) Q) {q : Addr} (hq : H q = none) : Q (.ref q) (upd H q (.lst (ns.map V.int))) := f.lst (repL_ints ns) hq
def sortD : List D → Option D
  | [d] => d.lst?.bind fun xs => (intsD xs).map fun ns => .lst ((srt ns).map D.int)
  | _ => none
theorem cad_sort {K : PySem.W.Frag} : CaD K (rSortedI K) sortD := by
  intro H ds vs d Q r e f
  unfold sortD at e
  split at e
  · simp only [Option.bind_eq_some_iff, Option.map_eq_some_iff] at e
    obtain ⟨xs, e1, ns, e2, rfl⟩ := e
    obtain ⟨v, T, rfl, h⟩ := repB_one r
    obtain ⟨a, ys, _, rfl, q, l⟩ := h.lstR' e1
    refine ⟨a, ns, rfl, intsD_ok e2 l ▸ q, fun ms p h1 h2 hp => ?_⟩
    rw [srt_uniq h1 h2]
    exact f.ints hp
  · cases e

/-! ### sorted(set(t)), t a tuple of ints -/
def rSetT (w : World) (K : PySem.W.Frag) : List V → Hp → VK → Prop := fun vs H Q => ∃ (a : Addr) (ns : List Int), vs = [V.ref a] ∧ SqT K H a (ns.map V.int) ∧ ns.length < 64 ∧
  ∀ (q : Addr) (n : Nat), H q = none → n < 64 → Q (.ref q) (upd H q (SetO w q (fun j => decide (j ∈ ns)) n))
theorem call_setT (hc : X.calm = true) : CallR X (.type "set") (rSetT X.w X.K) := by
  intro pins s σ H xs us Q I r h
  obtain ⟨p, ns, rfl, hq, hl, q⟩ := h
  obtain ⟨u, rfl, rx⟩ := vals1 r
  cases rx
  obtain ⟨its, rv, pt, hz⟩ := I.tuple hq
  have hi : PyProof.Rows.IntsAre its.toArray.toList ns := ints_of_vals rv
  refine call_set_tupI ns (I.ok.hd hc) (show s.heap.IsTuple p its.toArray from pt) hi (by unfold scanBound; omega) fun h' tk c R1 hcn k => ?_
  exact ⟨.ref s.heap.objs.size, _, I.laid (t' := tk) (o := SetO X.w s.heap.objs.size (fun j => decide (j ∈ ns)) c) (fun b u e => k b u e) (Nat.le_refl _) (setO_new R1), rfl, q _ _ (I.hok.fresh (Nat.le_refl _)) (by omega)⟩
def dedup : List Int → List Int
  | [] => []
  | n :: r => if n ∈ r then dedup r else n :: dedup r
theorem mem_dedup {k : Int} : ∀ {ns : List Int}, k ∈ dedup ns ↔ k ∈ ns
  | [] => Iff.rfl
  | n :: r => by
    unfold dedup
    split
    · rename_i h
      rw [mem_dedup, List.mem_cons]
      exact ⟨.inr, fun z => z.elim (fun z => z ▸ h) id⟩
    · rw [List.mem_cons, mem_dedup, List.mem_cons]
theorem nodup_dedup : ∀ ns : List Int, (dedup ns).Nodup
  | [] => List.nodup_nil
  | n :: r => by
    unfold dedup
    split
    · exact nodup_dedup r
    · rename_i h
      exact List.nodup_cons.mpr ⟨fun z => h (mem_dedup.mp z), nodup_dedup r⟩
def srtS (ns : List Int) : List Int := srt (dedup ns)
theorem srtS_uniq {ns ms : List Int} (h : ms.Pairwise (· < ·)) (m : ∀ k : Int, k ∈ ms ↔ k ∈ ns) : ms = srtS ns := by
  refine srt_uniq ?_ (h.imp fun h => Int.le_of_lt h)
  refine (List.perm_ext_iff_of_nodup (h.imp fun h => Int.ne_of_lt h) (nodup_dedup ns)).mpr fun k => ?_
  rw [m, mem_dedup]
def setSortD : D → Option D
  | .tup xs => (intsD xs).bind fun ns => if ns.length < 64 then some (.lst ((srtS ns).map D.int)) else none
  | _ => none
theorem de_setSort {e : Expr} {x : OX} {np sp spos pos : Pos} (hc : X.calm = true) (ha : DO X p e x) (hg : Gl X "sorted") (hm : X.mg "sorted" = none) (hg2 : Gl X "set") (hm2 : X.mg "set" = none)
    (he : starEach [e] X.env = (false, eval e X.env) :: starEach [] X.env := by rfl)
    (he2 : starEach [.Call (.Name "set" sp) [e] [] spos] X.env = (false, eval (.Call (.Name "set" sp) [e] [] spos) X.env) :: starEach [] X.env := by rfl) :
    DE X p (.Call (.Name "sorted" np) [.Call (.Name "set" sp) [e] [] spos] [] pos) (eUn setSortD x) := by
  refine PE.imp (pe_callB (cr_sortedSet hc) hg hm (by rfl) (pa_cons (pe_callTy (call_setT hc) hg2 hm2 (by rfl) (pa_cons ha pa_nil he) (by decide) (by decide) he (by rfl)) pa_nil he2) (by decide) (by decide) he2 (by rfl)) fun σ H Q w => ?_
  obtain ⟨E, S, d, E', r0, w1, w⟩ := w
  simp only [eUn, Option.bind_eq_some_iff, Option.map_eq_some_iff] at w1
  obtain ⟨⟨t1, E1⟩, e1, u1, ru1, d', eo, ee⟩ := w1
  injection ee with ee1 ee2
  subst ee1 ee2
  refine ⟨E, S, t1, E1, r0, e1, fun v1 H1 S1 T1 s1 k1 o1 m1 => ?_⟩
  obtain ⟨T1', z1⟩ := k1.rd s1.env ru1
  unfold setSortD at eo
  split at eo
  · rename_i xs
    simp only [Option.bind_eq_some_iff] at eo
    obtain ⟨ns, e2, e3⟩ := eo
    split at e3
    · rename_i hl
      cases e3
      obtain ⟨a, vs, rfl, q, l⟩ := z1
      have f := fin_of w s1 m1
      refine ⟨a, ns, rfl, intsD_ok e2 l ▸ q.seq, hl, fun b n hb hn => ⟨b, _, n, rfl, upd_same, hn, fun ms b2 h1 h2 h3 hb2 => ?_⟩⟩
      have em : ms = srtS ns := srtS_uniq h1 fun k => (h2 k).trans decide_eq_true_iff
      subst em
      have sm1 : Same H1 (upd H1 b (SetO X.w b (fun j => decide (j ∈ ns)) n)) := Same.upd hb
      have sm2 := sm1.trans (Same.upd (o := .lst ((srtS ns).map V.int)) hb2)
      have n2 : H1 b2 = none := by
        cases z : H1 b2 with
        | none => rfl
        | some o =>
          have z2 := sm1 b2 o z
          rw [hb2] at z2
          cases z2
      exact f _ _ (fun y => y = b2) ⟨b2, _, no, rfl, upd_same, rfl, fun z => z, no_sub, repL_ints _⟩ sm2 (fun y z => by
        have z : y = b2 := z
        rw [z]; exact n2) fun y z => by
        have z : y = b2 := z
        rw [z]; exact ⟨_, upd_same, rfl⟩
    · cases e3
  · cases eo
end
end Dn
end
section
/-! Dn12: methods of lists and tuples; what changes a list in its slot. -/
namespace Dn
open PySem PySem.Spec L2

/-! ### index, count -/
/-- items by place, and what the library reads of them -/
theorem read_items {X : Cx} {pins : List (Addr × Obj)} {σ : L2.St} {H : Hp} {s : Shared} (I : Inv X pins σ H s) {ds : List PyData} {vs : List V} {its : List Value} (ha : DpAll X.K H vs ds) (rv : Vals vs its) (hl : PyData.canLayAll0 ds = true) :
    ∃ as, ReadsAll s.heap its ds as ∧ its.length = ds.length ∧ its.map (SeqAt.readOf s.heap) = ds := by
  obtain ⟨as, h4⟩ := Dp.readsAll I ds _ its ha rv
  exact ⟨as, h4, SeqAt.ReadsAll.length ds its as h4, SeqAt.readsAll_map ds its as hl h4⟩
def rTIdx (K : PySem.W.Frag) : V → List V → Hp → VK → Prop := fun x xs H Q => ∃ (a : Addr) (y : V) (d : PyData) (ds : List PyData) (j : Nat), x = V.ref a ∧ xs = [y] ∧ Dp K H (V.ref a) (.tuple ds) ∧ Dp K H y d ∧
  SeqAt.shaped (.tuple ds) = true ∧ SeqAt.shaped d = true ∧ ds.findIdx? (fun z => PyData.eqv z d) = some j ∧ Q (.int (j : Nat)) H
theorem mt_tidx {X : Cx} (hu : X.A.units + 65 < cLine) : MtR X "tuple.index" (rTIdx X.K) := by
  intro pins s σ H x xs v us Q I rx rxs h
  obtain ⟨a, y, d, ds, j, rfl, rfl, hl, hy, sl, sd, hj, q⟩ := h
  cases rx
  obtain ⟨uy, rfl, ry⟩ := vals1 rxs
  obtain ⟨bs, r1⟩ := Dp.reads I d y uy hy ry
  have hxs : PyData.canLayAll0 ds = true := by simpa [PyData.canLay0] using SeqAt.canLay_of_shaped sl
  have hroom : X.A.units + 1 + min (PyData.depthAll ds) d.depth < cLine := PyProof.Rows.room_in_shaped sd hu
  cases hl with
  | tup hs ha =>
    obtain ⟨its, rv, ⟨⟨cls, dd, data, sls⟩, ho, hc, n, hdt⟩, hlen⟩ := I.tuple hs
    simp only at hc hdt
    subst hc hdt
    obtain ⟨as, h4, hn, hmap⟩ := read_items I ha rv hxs
    obtain ⟨hjd, hz, hno⟩ := List.findIdx?_eq_some_iff_getElem.mp hj
    have hjl : j < its.toArray.size := by rw [List.size_toArray, hn]; exact hjd
    have at_ : ∀ (m : Nat) (hm : m < its.toArray.size) (hd : m < ds.length), SeqAt.readOf s.heap its.toArray[m] = ds[m] := fun m hm hd => by
      have hml : m < its.length := by simpa using hm
      have e : (its.map (SeqAt.readOf s.heap))[m]? = ds[m]? := by rw [hmap]
      rw [List.getElem?_map, List.getElem?_eq_getElem hml, List.getElem?_eq_getElem hd] at e
      simpa using e
    refine call_meets PySem.F.slot_tuple_index ⟨_, ho, rfl⟩ PySem.F.entry_tuple_index (PySem.F.args_tuple_index_2 _ _) (TI.tuple_indexAt a its.toArray n dd sls uy (fun u => PyData.eqv (SeqAt.readOf s.heap u) d) j hjl ?_ ?_)
      ⟨ho, SeqAt.items_eqAt (vs := its.toArray) (show ReadsAll s.heap its.toArray.toList ds as from h4) r1 hxs (SeqAt.canLay_of_shaped sd) hroom, ?_⟩
    · show PyData.eqv (SeqAt.readOf s.heap its.toArray[j]) d = true
      rw [at_ j hjl hjd]
      exact hz
    · intro m hm hmj
      show PyData.eqv (SeqAt.readOf s.heap its.toArray[m]) d = false
      rw [at_ m hm (by omega)]
      exact Bool.eq_false_iff.mpr (by simpa using hno m hmj)
    · exact ⟨.int (j : Nat), H, I.tok _, ⟨_, rfl⟩, q⟩
/-- xs.count(y), xs a list (b) or a tuple -/
def rCnt (K : PySem.W.Frag) (b : Bool) : V → List V → Hp → VK → Prop := fun x xs H Q => ∃ (a : Addr) (y : V) (d : PyData) (ds : List PyData), x = V.ref a ∧ xs = [y] ∧ Dp K H (V.ref a) (if b = true then .list ds else .tuple ds) ∧ Dp K H y d ∧
  PyData.canLayAll0 ds = true ∧ SeqAt.shaped d = true ∧ Q (.int (ds.countP fun z => PyData.eqv z d : Nat)) H
theorem cnt_eq {h : Heap} {its : List Value} {ds : List PyData} {d : PyData} (hmap : its.map (SeqAt.readOf h) = ds) : its.toArray.toList.countP (fun u => PyData.eqv (SeqAt.readOf h u) d) = ds.countP fun z => PyData.eqv z d := by
  rw [← hmap, List.countP_map]
  rfl
theorem mt_tcnt {X : Cx} (hu : X.A.units + 65 < cLine) : MtR X "tuple.count" (rCnt X.K false) := by
  intro pins s σ H x xs v us Q I rx rxs h
  obtain ⟨a, y, d, ds, rfl, rfl, hl, hy, hxs, sd, q⟩ := h
  cases rx
  obtain ⟨uy, rfl, ry⟩ := vals1 rxs
  obtain ⟨bs, r1⟩ := Dp.reads I d y uy hy ry
  have hroom : X.A.units + 1 + min (PyData.depthAll ds) d.depth < cLine := PyProof.Rows.room_in_shaped sd hu
  have hl : Dp X.K H (V.ref a) (.tuple ds) := hl
  cases hl with
  | tup hs ha =>
    obtain ⟨its, rv, ⟨⟨cls, dd, data, sls⟩, ho, hc, n, hdt⟩, hlen⟩ := I.tuple hs
    simp only at hc hdt
    subst hc hdt
    obtain ⟨as, h4, hn, hmap⟩ := read_items I ha rv hxs
    refine call_meets PySem.F.slot_tuple_count ⟨_, ho, rfl⟩ PySem.F.entry_tuple_count (PySem.F.args_tuple_count_2 _ _) (SeqAt.tuple_countAt a its.toArray n dd sls uy (fun u => PyData.eqv (SeqAt.readOf s.heap u) d))
      ⟨ho, SeqAt.items_eqAt (vs := its.toArray) (show ReadsAll s.heap its.toArray.toList ds as from h4) r1 hxs (SeqAt.canLay_of_shaped sd) hroom, ?_⟩
    exact ⟨.int (ds.countP fun z => PyData.eqv z d : Nat), H, I.tok _, ⟨s.toks, by rw [cnt_eq hmap]⟩, q⟩
theorem mt_lcnt {X : Cx} (hu : X.A.units + 65 < cLine) : MtR X "list.count" (rCnt X.K true) := by
  intro pins s σ H x xs v us Q I rx rxs h
  obtain ⟨a, y, d, ds, rfl, rfl, hl, hy, hxs, sd, q⟩ := h
  cases rx
  obtain ⟨uy, rfl, ry⟩ := vals1 rxs
  obtain ⟨bs, r1⟩ := Dp.reads I d y uy hy ry
  have hroom : X.A.units + 1 + min (PyData.depthAll ds) d.depth < cLine := PyProof.Rows.room_in_shaped sd hu
  have hl : Dp X.K H (V.ref a) (.list ds) := hl
  cases hl with
  | lst hs ha =>
    obtain ⟨its, rv, ⟨⟨cls, dd, data, sls⟩, n, ho, hc, hdn, hdt⟩, hlen⟩ := I.list hs
    simp only at hc hdt
    subst hc hdt
    obtain ⟨as, h4, hn, hmap⟩ := read_items I ha rv hxs
    refine call_meets PySem.F.slot_list_count ⟨_, ho, rfl⟩ PySem.F.entry_list_count (PySem.F.args_list_count_2 _ _) (SeqAt.list_countAt a its.toArray n dd sls uy (fun u => PyData.eqv (SeqAt.readOf s.heap u) d))
      ⟨ho, SeqAt.items_eqAt (vs := its.toArray) (show ReadsAll s.heap its.toArray.toList ds as from h4) r1 hxs (SeqAt.canLay_of_shaped sd) hroom, ?_⟩
    exact ⟨.int (ds.countP fun z => PyData.eqv z d : Nat), H, I.tok _, ⟨s.toks, by rw [cnt_eq hmap]⟩, q⟩

/-! ### o.m(x, ..), o a list or a tuple that is read -/
def MeD (K : PySem.W.Frag) (r : V → List V → Hp → VK → Prop) (o : D → List D → Option D) : Prop := ∀ (H : Hp) (d0 : D) (v0 : V) (T0 : AS) (ds : List D) (vs : List V) (d : D) (Q : VK), Rep K H d0 v0 T0 → RepB K H ds vs → o d0 ds = some d → Fin K H d Q → r v0 vs H Q
def idxD (t : String) (c : D) (ds : List D) : Option D := match ds with
  | [x] => if (c.ty == t && x.shp && c.shp) = true then c.seq?.bind fun xs => (xs.findIdx? fun y => y.eqv x).map fun j => .int (j : Nat) else none
  | _ => none
def cntD (t : String) (c : D) (ds : List D) : Option D := match ds with
  | [x] => if (c.ty == t && x.shp && c.shp) = true then c.seq?.map fun xs => .int (xs.countP fun y => y.eqv x : Nat) else none
  | _ => none
section
variable {K : PySem.W.Frag}
theorem pys_find (x : D) : ∀ xs : List D, (D.pys xs).findIdx? (fun z => PyData.eqv z x.py) = xs.findIdx? fun y => y.eqv x := fun xs => by
  rw [D.pys_map, List.findIdx?_map]
  rfl
theorem pys_count (x : D) (xs : List D) : (D.pys xs).countP (fun z => PyData.eqv z x.py) = xs.countP fun y => y.eqv x := by
  rw [D.pys_map, List.countP_map]
  rfl
theorem shp_lay {d : D} (h : d.shp = true) : PyData.canLay0 d.py = true := SeqAt.canLay_of_shaped h
theorem seq_py {d : D} {xs : List D} (h : d.seq? = some xs) : d.py = .tuple (D.pys xs) ∨ d.py = .list (D.pys xs) := by
  cases d <;> simp [D.seq?] at h
  · subst h; left; rfl
  · subst h; right; rfl
  · subst h; right; rfl
theorem med_tidx : MeD K (rTIdx K) (idxD "tuple") := by
  intro H d0 v0 T0 ds vs d Q r0 r e f
  unfold idxD at e
  split at e
  · rename_i x
    split at e
    · rename_i hc
      simp only [Bool.and_eq_true, beq_iff_eq] at hc
      obtain ⟨⟨ht, sx⟩, sc⟩ := hc
      cases d0 <;> simp [D.ty] at ht
      rename_i xs
      simp only [D.seq?, Option.bind_some, Option.map_eq_some_iff] at e
      obtain ⟨j, ej, rfl⟩ := e
      obtain ⟨w, T, rfl, h⟩ := repB_one r
      have z := r0.dp (shp_lay sc)
      obtain ⟨a, ws, rfl, q, l⟩ := r0
      exact ⟨a, w, x.py, D.pys xs, j, rfl, rfl, by simpa only [D.py] using z, h.dp (shp_lay sx), by simpa only [D.shp, D.py] using sc, sx, by rw [pys_find]; exact ej, f.scal rfl⟩
    · cases e
  · cases e
theorem med_lidx : MeD K (rIndexD K) (idxD "list") := by
  intro H d0 v0 T0 ds vs d Q r0 r e f
  unfold idxD at e
  split at e
  · rename_i x
    split at e
    · rename_i hc
      simp only [Bool.and_eq_true, beq_iff_eq] at hc
      obtain ⟨⟨ht, sx⟩, sc⟩ := hc
      simp only [Option.bind_eq_some_iff, Option.map_eq_some_iff] at e
      obtain ⟨xs, es, j, ej, rfl⟩ := e
      obtain ⟨w, T, rfl, h⟩ := repB_one r
      have z := r0.dp (shp_lay sc)
      have ep : d0.py = .list (D.pys xs) := by
        rcases seq_py es with ep | ep
        · cases d0 <;> simp [D.ty] at ht <;> simp [D.py] at ep
        · exact ep
      have ea : ∃ a, v0 = .ref a := by
        rw [ep] at z
        cases z
        exact ⟨_, rfl⟩
      obtain ⟨a, rfl⟩ := ea
      have ej2 : (D.pys xs).findIdx? (fun z => PyData.eqv z x.py) = some j := by rw [pys_find]; exact ej
      obtain ⟨hjd, hz, hno⟩ := List.findIdx?_eq_some_iff_getElem.mp ej2
      rw [ep] at z
      refine ⟨a, w, x.py, D.pys xs, j, (D.pys xs)[j], rfl, rfl, z, h.dp (shp_lay sx), by rw [← ep]; exact sc, sx, List.getElem?_eq_getElem hjd, hz, fun m z' hm hz' => ?_, f.scal rfl⟩
      obtain ⟨hml, hme⟩ := List.getElem?_eq_some_iff.mp hz'
      rw [← hme]
      exact Bool.eq_false_iff.mpr (by simpa using hno m hm)
    · cases e
  · cases e
theorem med_tcnt : MeD K (rCnt K false) (cntD "tuple") := by
  intro H d0 v0 T0 ds vs d Q r0 r e f
  unfold cntD at e
  split at e
  · rename_i x
    split at e
    · rename_i hc
      simp only [Bool.and_eq_true, beq_iff_eq] at hc
      obtain ⟨⟨ht, sx⟩, sc⟩ := hc
      cases d0 <;> simp [D.ty] at ht
      rename_i xs
      simp only [D.seq?, Option.map_some] at e
      cases e
      obtain ⟨w, T, rfl, h⟩ := repB_one r
      have z := r0.dp (shp_lay sc)
      have z2 := shp_lay sc
      obtain ⟨a, ws, rfl, q, l⟩ := r0
      exact ⟨a, w, x.py, D.pys xs, rfl, rfl, (show Dp K H _ (.tuple (D.pys xs)) from by simpa only [D.py] using z), h.dp (shp_lay sx), by simpa [D.py, PyData.canLay0] using z2, sx, f.scal (by rw [pys_count]; rfl)⟩
    · cases e
  · cases e
theorem med_lcnt : MeD K (rCnt K true) (cntD "list") := by
  intro H d0 v0 T0 ds vs d Q r0 r e f
  unfold cntD at e
  split at e
  · rename_i x
    split at e
    · rename_i hc
      simp only [Bool.and_eq_true, beq_iff_eq] at hc
      obtain ⟨⟨ht, sx⟩, sc⟩ := hc
      simp only [Option.map_eq_some_iff] at e
      obtain ⟨xs, es, rfl⟩ := e
      obtain ⟨w, T, rfl, h⟩ := repB_one r
      have z := r0.dp (shp_lay sc)
      have z2 := shp_lay sc
      have ep : d0.py = .list (D.pys xs) := by
        rcases seq_py es with ep | ep
        · cases d0 <;> simp [D.ty] at ht <;> simp [D.py] at ep
        · exact ep
      rw [ep] at z z2
      have ea : ∃ a, v0 = .ref a := by
        cases z
        exact ⟨_, rfl⟩
      obtain ⟨a, rfl⟩ := ea
      exact ⟨a, w, x.py, D.pys xs, rfl, rfl, z, h.dp (shp_lay sx), by simpa [PyData.canLay0] using z2, sx, f.scal (by rw [pys_count]; rfl)⟩
    · cases e
  · cases e
end
/-- the call of a bare tuple's method -/
def tBT (K : PySem.W.Frag) (r : V → List V → Hp → VK → Prop) (to : TE) (t : TA) : TE := fun σ H Q => to σ H fun x H1 => (∃ a xs, x = .ref a ∧ SqB K H1 a xs) ∧ t σ H1 fun xs H2 => r x xs H2 Q
section
variable {X : Cx} {o e : Expr} {es : List Expr} {to : TE} {t : TA} {name : Str} {apos cpos : Pos} {id : String} {r : V → List V → Hp → VK → Prop}
theorem SqB.ob {pins : List (Addr × Obj)} {σ : L2.St} {H : Hp} {s : Shared} {a : Addr} {xs : List V} (I : Inv X pins σ H s) (q : SqB X.K H a xs) : s.TypeIs (.ref a) "tuple" ∧ ∃ ob, s.heap.get? a = some ob ∧ ob.dict = none := by
  rcases q with ⟨us, q⟩ | ⟨ob, its, n, h1, h2, h3, _⟩
  · obtain ⟨e, _⟩ := I.hok a _ q
    exact ⟨⟨_, e, rfl⟩, _, e, rfl⟩
  · exact ⟨⟨_, I.kIn a ob h1, h2⟩, _, I.kIn a ob h1, h3⟩
theorem pe_bt (slot : Slot "tuple" name id) (hty : typeOf (.builtin id) = pure (.type "method_descriptor")) (hm : MtR X id r) (ho : PE X o to) (ha : PA X (e :: es) t)
    (hbase : attributeBase o name X.env (eval o X.env) = eval o X.env := by rfl)
    (hfew : ((backTo cpos (starEach (e :: es) X.env)).all (fun x => !x.1) && (backToKw cpos (keywordEach [] X.env)).all (fun x => x.1.isSome)
      && decide ((e :: es).length + ([] : List Keyword).length + (if ([] : List Keyword).isEmpty then 0 else 1) < 30)) = true := by rfl)
    (hline : (apos.endLine == cpos.line) = true := by rfl) (hs : starEach (e :: es) X.env = (false, eval e X.env) :: starEach es X.env := by rfl) (hplain : (backTo cpos (starEach es X.env)).any (·.1) = false := by rfl) :
    PE X (.Call (.Attribute o name apos) (e :: es) [] cpos) (tBT X.K r to t) := by
  refine ⟨fun pins s σ H Q I h => wpAny_Call_method_late hbase hfew hline rfl (thn (ho.run pins s σ H _ I h) fun v s1 z => ?_)⟩
  obtain ⟨x, H1, I1, r1, ⟨a, xs, rfl, q⟩, q1⟩ := z
  cases r1
  obtain ⟨h1, ob, h2, h3⟩ := q.ob I1
  refine ⟨"tuple", id, PySem.F.plainAttrs_tuple, slot, hty, h1, fun b eb => by cases eb; exact ⟨ob, h2, h3⟩, ?_⟩
  have hA := ha.run cpos pins s1 σ H1 _ I1 q1
  rw [hs] at hA ⊢
  refine Calls.callWith_builtin (by show (false || (backTo cpos (starEach es X.env)).any (·.1)) = false; rw [hplain] <;> rfl) (Calls.evalArgs_plain (thn hA fun us s2 z => ?_))
  obtain ⟨vs, H2, I2, r2, q2⟩ := z
  exact hm pins s2 σ H2 (.ref a) vs (.ref a) us Q I2 rfl r2 q2
end
def eMeth (t : String) (o : D → List D → Option D) (x : OX) (r : OXs) : EX := fun E => (x E).bind fun s => (rd s.1 s.2).bind fun d0 => if d0.ty = t then (r s.2).bind fun u => (rd s.1 u.2).bind fun d => (rds u.1 u.2).bind fun ds => (o d ds).map fun d' => (d', u.2) else none
section
variable {X : Cx} {p q : Bool} {o e : Expr} {es : List Expr} {name : Str} {apos cpos : Pos} {id : String} {r : V → List V → Hp → VK → Prop} {f : D → List D → Option D} {x : OX} {ρ : OXs}
theorem meth_ok {t : String} (hd : MeD X.K r f) {σ : L2.St} {H : Hp} {Q : VK} (w : tD X.K (p && q) (eMeth t f x ρ) σ H Q) : tO X.K p x σ H fun v H1 => (∃ d0 T0, d0.ty = t ∧ Rep X.K H1 d0 v T0) ∧ tOs X.K q ρ σ H1 fun vs H2 => r v vs H2 Q := by
  obtain ⟨E, S, d, E', r0, w1, w⟩ := w
  simp only [eMeth, Option.bind_eq_some_iff] at w1
  obtain ⟨⟨t1, E1⟩, e1, d0, e2, w1⟩ := w1
  split at w1
  case isFalse => cases w1
  rename_i ht
  simp only [Option.bind_eq_some_iff, Option.map_eq_some_iff] at w1
  obtain ⟨⟨ts, E2⟩, e3, d1, e4, ds, e5, d', e6, ee⟩ := w1
  injection ee with ee1 ee2
  subst ee1 ee2
  refine ⟨E, S, t1, E1, r0, e1, fun v1 H1 S1 T1 s1 k1 o1 m1 => ?_⟩
  obtain ⟨T0, z0⟩ := k1.rd s1.env e2
  refine ⟨⟨d0, T0, ht, z0⟩, E1, S1, ts, E2, s1.env, e3, fun vs H2 S2 T2 s2 k2 o2 m2 => ?_⟩
  obtain ⟨T1', z1⟩ := (tk_step k1 o1 s2 s1.env.mu).rd s2.env e4
  exact hd H2 d1 v1 T1' ds vs d' Q z1 (k2.rds s2.env e5) e6 (fin_of w (s1.trans s2) fun hp => by
    rw [Bool.and_eq_true] at hp
    exact (m1 hp.1).trans (m2 hp.2))
theorem ty_list {K : PySem.W.Frag} {H : Hp} {d : D} {v : V} {T : AS} (h : Rep K H d v T) (t : d.ty = "list") : tyV K "list" v H := by
  cases d <;> simp [D.ty] at t
  · obtain ⟨a, ys, _, rfl, q, _⟩ := h.lstR (.inl rfl)
    exact .inl ⟨rfl, ys, by assumption⟩
  · obtain ⟨a, ys, _, rfl, q, _⟩ := h.lstR (.inr rfl)
    exact .inl ⟨rfl, ys, by assumption⟩
theorem de_ml (slot : Slot "list" name id) (hty : typeOf (.builtin id) = pure (.type "method_descriptor")) (hm : MtR X id r) (hd : MeD X.K r f) (ho : DO X p o x) (ha : DOs X q (e :: es) ρ)
    (hbase : attributeBase o name X.env (eval o X.env) = eval o X.env := by rfl)
    (hfew : ((backTo cpos (starEach (e :: es) X.env)).all (fun x => !x.1) && (backToKw cpos (keywordEach [] X.env)).all (fun x => x.1.isSome)
      && decide ((e :: es).length + ([] : List Keyword).length + (if ([] : List Keyword).isEmpty then 0 else 1) < 30)) = true := by rfl)
    (hline : (apos.endLine == cpos.line) = true := by rfl) (hs : starEach (e :: es) X.env = (false, eval e X.env) :: starEach es X.env := by rfl) (hplain : (backTo cpos (starEach es X.env)).any (·.1) = false := by rfl) :
    DE X (p && q) (.Call (.Attribute o name apos) (e :: es) [] cpos) (eMeth "list" f x ρ) := by
  refine PE.imp (pe_bm PySem.F.plainAttrs_list slot hty hm ho ha hbase hfew hline hs hplain) fun σ H Q w => ?_
  obtain ⟨E, S, tk, E', r0, e1, w⟩ := meth_ok hd w
  exact ⟨E, S, tk, E', r0, e1, fun v H1 S1 T s1 k o m => by
    obtain ⟨⟨d0, T0, ht, z⟩, w⟩ := w v H1 S1 T s1 k o m
    exact ⟨ty_list z ht, w⟩⟩
theorem de_mt (slot : Slot "tuple" name id) (hty : typeOf (.builtin id) = pure (.type "method_descriptor")) (hm : MtR X id r) (hd : MeD X.K r f) (ho : DO X p o x) (ha : DOs X q (e :: es) ρ)
    (hbase : attributeBase o name X.env (eval o X.env) = eval o X.env := by rfl)
    (hfew : ((backTo cpos (starEach (e :: es) X.env)).all (fun x => !x.1) && (backToKw cpos (keywordEach [] X.env)).all (fun x => x.1.isSome)
      && decide ((e :: es).length + ([] : List Keyword).length + (if ([] : List Keyword).isEmpty then 0 else 1) < 30)) = true := by rfl)
    (hline : (apos.endLine == cpos.line) = true := by rfl) (hs : starEach (e :: es) X.env = (false, eval e X.env) :: starEach es X.env := by rfl) (hplain : (backTo cpos (starEach es X.env)).any (·.1) = false := by rfl) :
    DE X (p && q) (.Call (.Attribute o name apos) (e :: es) [] cpos) (eMeth "tuple" f x ρ) := by
  refine PE.imp (pe_bt slot hty hm ho ha hbase hfew hline hs hplain) fun σ H Q w => ?_
  obtain ⟨E, S, tk, E', r0, e1, w⟩ := meth_ok hd w
  exact ⟨E, S, tk, E', r0, e1, fun v H1 S1 T s1 k o m => by
    obtain ⟨⟨d0, T0, ht, z⟩, w⟩ := w v H1 S1 T s1 k o m
    refine ⟨?_, w⟩
    cases d0 <;> simp [D.ty] at ht
    obtain ⟨a, ys, rfl, q, _⟩ := z
    exact ⟨a, ys, rfl, q⟩⟩
end

/-! ### what changes the list in a slot -/
section
variable {K : PySem.W.Frag} {H H2 H3 : Hp} {E2 : Env} {σ : L2.St} {S : AS} {S2 : Nat → AS} {T T' : AS}
theorem Mu.upd {U : AS} {a : Addr} {o : HO} (m : Mu H U) (h : mutO o = true) : Mu (upd H a o) U := fun b u => by
  by_cases e : b = a
  · rw [e, upd_same]; exact ⟨o, rfl, h⟩
  · rw [upd_ne e]; exact m b u
theorem Frm.upd {U : AS} {a : Addr} {o : HO} (h : U a) : Frm U H (L2.upd H a o) := fun b u e n => by
  have z : b ≠ a := fun z => n (by rw [z]; exact h)
  rw [upd_ne z]; exact e
theorem set_same {i : Nat} {v : V} (h : σ[i]? = some (some v)) : σ.set i (some v) = σ := by
  obtain ⟨hl, he⟩ := List.getElem?_eq_some_iff.mp h
  rw [← he, List.set_getElem_self]
theorem mut_ok {i : Nat} {v : V} {d' : D} (s : Stp K σ S H E2 S2 H2) (o : Ow S H S2 H2 T) (hv : σ[i]? = some (some v)) (f : Frm (S2 i) H2 H3) (h : Rep K H3 d' v T') (st : Sub T' (un (S2 i) T)) (m3 : Mu H3 T') :
    Stp K σ S H (E2.set i (some d')) (fun j => if j = i then T' else S2 j) H3 := by
  have r := s.env
  have dr := (r.drop (i := i)).frm f (r.mui i) (drop_disj r).symm
  have dj : Disj T' (tot (fun j => if j = i then no else S2 j)) := fun a ha z => by
    rcases st a ha with y | y
    · exact drop_disj r a y z
    · exact o.dj a y (tot_drop a z)
  have r3 := dr.set (i := i) h dj m3
  rw [set_same hv, List.set_set] at r3
  have e : (fun j => if j = i then T' else (if j = i then no else S2 j)) = fun j => if j = i then T' else S2 j := funext fun j => by split <;> rfl
  rw [e] at r3
  refine ⟨r3, s.frm.trans s.new (f.mono sub_tot), fun a ha => ?_⟩
  rcases tot_set a ha with y | y
  · rcases st a y with y | y
    · exact s.new a ⟨i, y⟩
    · exact o.new a y
  · exact s.new a y
end
def isLst (i : Nat) (E : Env) : Bool := match E[i]? with
  | some (some (.lst _)) => true
  | _ => false
/-- xs.m(y), xs in the slot i: what it gives, what xs is then -/
def eMut1 (i : Nat) (f : List D → D → Option (D × List D)) (y : EX) : EX := fun E => if isLst i E = true then (y E).bind fun s => match s.2[i]? with
  | some (some (.lst xs)) => (f xs s.1).map fun u => (u.1, s.2.set i (some (.lst u.2)))
  | _ => none else none
/-- the rule's reading: the list at a holds vs, the argument is v -/
def MuD (K : PySem.W.Frag) (r : V → List V → Hp → VK → Prop) (f : List D → D → Option (D × List D)) : Prop := ∀ (H : Hp) (a : Addr) (vs : List V) (xs : List D) (T0 : AS) (d : D) (v : V) (T : AS) (g : D) (ys : List D) (Q : VK), H a = some (.lst vs) → ¬ T0 a → ¬ T a → RepL K H xs vs T0 → Rep K H d v T → Disj T0 T → f xs d = some (g, ys) →
  (∀ (w : V) (ws : List V) (U : AS), g.imm = true → RepL K H ys ws U → Sub U (un T0 T) → Rep K (upd H a (.lst ws)) g w no → Q w (upd H a (.lst ws))) → r (.ref a) [v] H Q
section
variable {X : Cx} {p q : Bool} {o e : Expr} {es : List Expr} {apos cpos : Pos} {i : Nat} {y : EX}
theorem slot_list {σ : L2.St} {H : Hp} {E : Env} {S : Nat → AS} {i : Nat} {xs : List D} (r : RepE X.K H E σ S) (e : E[i]? = some (some (.lst xs))) : ∃ a vs T0, σ[i]? = some (some (.ref a)) ∧ H a = some (.lst vs) ∧ S i a ∧ ¬ T0 a ∧ Sub T0 (S i) ∧ RepL X.K H xs vs T0 := by
  obtain ⟨v, h1, h2⟩ := r.at_ i _ e
  obtain ⟨a, vs, T0, rfl, q, h⟩ := h2
  exact ⟨a, vs, T0, h1, q, h⟩
theorem slot_isLst {σ : L2.St} {H : Hp} {E : Env} {S : Nat → AS} {i : Nat} (r : RepE X.K H E σ S) (e : isLst i E = true) : ∃ a, σ[i]? = some (some (.ref a)) ∧ tyV X.K "list" (.ref a) H := by
  unfold isLst at e
  split at e
  · rename_i xs ex
    obtain ⟨a, vs, _, h1, h2, _⟩ := slot_list r ex
    exact ⟨a, h1, .inl ⟨rfl, vs, SqL.of h2⟩⟩
  · cases e
/-- a list rewritten in its slot -/
theorem lst_put {σ : L2.St} {S : AS} {H H1 : Hp} {E1 : Env} {S1 : Nat → AS} {T T0 U : AS} {a : Addr} {ws : List V} {ys : List D} (s1 : Stp X.K σ S H E1 S1 H1) (o : Ow S H S1 H1 T) (hv : σ[i]? = some (some (.ref a))) (ha : S1 i a) (nT : ¬ T0 a) (sT : Sub T0 (S1 i)) (l : RepL X.K H1 ys ws U) (su : Sub U (un T0 T)) :
    ∃ S', Stp X.K σ S H (E1.set i (some (.lst ys))) S' (upd H1 a (.lst ws)) := by
  have nu : ¬ U a := fun z => by
    rcases su a z with z | z
    · exact nT z
    · exact o.dj a z ⟨i, ha⟩
  have ma : Mu H1 (fun b => b = a) := fun b z => by
    have z : b = a := z
    rw [z]; exact s1.env.mu a ⟨i, ha⟩
  have l2 : RepL X.K (upd H1 a (.lst ws)) ys ws U := l.frm (S := fun b => b = a) (Frm.upd rfl) ma fun b z z2 => by
    have z2 : b = a := z2
    rw [z2] at z
    exact nu z
  have sU : Sub U (un (S1 i) T) := fun b z => (su b z).elim (fun z => .inl (sT b z)) .inr
  refine ⟨_, mut_ok (T' := un (S1 i) T) s1 o hv (Frm.upd ha) ⟨a, ws, U, rfl, upd_same, .inl ha, nu, sU, l2⟩ Sub.refl (Mu.upd ((s1.env.mui i).un o.mu) rfl)⟩
theorem mut1_ok {r : V → List V → Hp → VK → Prop} {f : List D → D → Option (D × List D)} (hd : MuD X.K r f) {σ : L2.St} {H : Hp} {Q : VK} (w : tD X.K false (eMut1 i f y) σ H Q) : tBM X.K "list" r (tVar i) (tCons (tD X.K p y) tNil) σ H Q := by
  obtain ⟨E, S, d, E', r0, w1, w⟩ := w
  unfold eMut1 at w1
  split at w1
  case isFalse => cases w1
  rename_i hi
  simp only [Option.bind_eq_some_iff] at w1
  obtain ⟨⟨d1, E1⟩, e1, w1⟩ := w1
  split at w1
  case h_2 => cases w1
  rename_i xs ex
  obtain ⟨⟨g, ys⟩, ef, ee⟩ := Option.map_eq_some_iff.mp w1
  injection ee with ee1 ee2
  subst ee1 ee2
  obtain ⟨a, hv, ty⟩ := slot_isLst r0 hi
  refine ⟨.ref a, hv, ty, E, S, d1, E1, r0, e1, fun v H1 S1 T s1 k o m => ?_⟩
  obtain ⟨a', vs, T0, hv', hH, ha, nT, sT, l⟩ := slot_list s1.env ex
  rw [hv] at hv'
  cases hv'
  refine hd H1 a vs xs T0 d1 v T g ys Q hH nT (fun z => o.dj a z ⟨i, ha⟩) l k (fun b z1 z2 => o.dj b z2 ⟨i, sT b z1⟩) ef fun u ws U gi l2 su rg => ?_
  obtain ⟨S', s'⟩ := lst_put s1 o hv ha nT sT l2 su
  exact w u _ S' no s' rg ⟨Disj.no_l, Mu.nil, fun _ z => z.elim⟩ fun z => nomatch z
theorem de_mut1 {name : Str} {id : String} {r : V → List V → Hp → VK → Prop} {f : List D → D → Option (D × List D)} (slot : Slot "list" name id) (hty : typeOf (.builtin id) = pure (.type "method_descriptor")) (hm : MtR X id r) (hd : MuD X.K r f) (ho : PE X o (tVar i)) (ha : DE X p e y)
    (hbase : attributeBase o name X.env (eval o X.env) = eval o X.env := by rfl)
    (hfew : ((backTo cpos (starEach [e] X.env)).all (fun x => !x.1) && (backToKw cpos (keywordEach [] X.env)).all (fun x => x.1.isSome)
      && decide ([e].length + ([] : List Keyword).length + (if ([] : List Keyword).isEmpty then 0 else 1) < 30)) = true := by rfl)
    (hline : (apos.endLine == cpos.line) = true := by rfl) (hs : starEach [e] X.env = (false, eval e X.env) :: starEach [] X.env := by rfl) (hplain : (backTo cpos (starEach [] X.env)).any (·.1) = false := by rfl) :
    DE X false (.Call (.Attribute o name apos) [e] [] cpos) (eMut1 i f y) :=
  PE.imp (pe_bm PySem.F.plainAttrs_list slot hty hm ho (pa_cons ha pa_nil hs) hbase hfew hline hs hplain) fun _ _ _ w => mut1_ok hd w
end
/-- append, extend (by a list of its own), pop(i) -/
def appF (xs : List D) (d : D) : Option (D × List D) := if xs.length < 100000 then some (.non, xs ++ [d]) else none
def extF (xs : List D) (d : D) : Option (D × List D) := match d with
  | .lst ys => if xs.length + ys.length ≤ 100000 then some (.non, xs ++ ys) else none
  | _ => none
theorem RepL.app2 {K : PySem.W.Frag} {H : Hp} : ∀ {ds es : List D} {vs ws : List V} {T U : AS}, RepL K H ds vs T → RepL K H es ws U → Disj T U → RepL K H (ds ++ es) (vs ++ ws) (un T U)
  | [], es, vs, ws, T, U, h, q, dj => by
    have h : vs = [] := h
    subst h
    exact RepL.sub q fun a z => .inr z
  | x :: ds, es, _, ws, T, U, h, q, dj => by
    obtain ⟨w, vs, T1, T2, rfl, h1, h2, s1, s2, d12⟩ := h
    exact ⟨w, _, T1, un T2 U, rfl, h1, RepL.app2 h2 q (dj.mono s2 Sub.refl), fun a z => .inl (s1 a z), fun a z => z.elim (fun z => .inl (s2 a z)) .inr, fun a x y => y.elim (fun y => d12 a x y) fun y => dj a (s1 a x) y⟩
theorem mud_app {K : PySem.W.Frag} : MuD K rAppend appF := by
  intro H a vs xs T0 d v T g ys Q hH n0 nT l k dj e f
  unfold appF at e
  split at e
  · rename_i hl
    cases e
    refine ⟨a, vs, v, rfl, rfl, hH, by rw [l.length, sizeLine_eq]; omega, ?_⟩
    exact f .non _ (un T0 T) rfl (l.snoc k dj.symm) Sub.refl rfl
  · cases e
theorem mud_ext {K : PySem.W.Frag} : MuD K rExtend extF := by
  intro H a vs xs T0 d v T g ys Q hH n0 nT l k dj e f
  unfold extF at e
  split at e
  · rename_i zs
    split at e
    · rename_i hl
      cases e
      obtain ⟨b, ws, T1, rfl, q, _, _, s1, l1⟩ := k
      refine ⟨a, b, vs, ws, rfl, rfl, hH, q, by rw [l.length, l1.length, sizeLine_eq]; omega, ?_⟩
      exact f .non _ (un T0 T1) rfl (l.app2 l1 (dj.mono Sub.refl s1)) (fun b z => z.elim .inl fun z => .inr (s1 b z)) rfl
    · cases e
  · cases e
end Dn
end
section
/-! Dn13: x[i] = e, x op= e. -/
namespace Dn
open PySem PySem.Spec L2

theorem RepL.setAt {K : PySem.W.Frag} {H : Hp} : ∀ {ds : List D} {vs : List V} {T U : AS} {d : D} {v : V} (j : Nat), RepL K H ds vs T → Rep K H d v U → Disj U T → RepL K H (ds.set j d) (vs.set j v) (un T U)
  | [], vs, T, U, d, v, j, h, q, dj => by
    have h : vs = [] := h
    subst h
    rfl
  | x :: ds, _, T, U, d, v, 0, h, q, dj => by
    obtain ⟨w, vs, T1, T2, rfl, h1, h2, s1, s2, d12⟩ := h
    exact ⟨v, vs, U, T2, rfl, q, h2, fun a z => .inr z, fun a z => .inl (s2 a z), fun a x y => dj a x (s2 a y)⟩
  | x :: ds, _, T, U, d, v, j + 1, h, q, dj => by
    obtain ⟨w, vs, T1, T2, rfl, h1, h2, s1, s2, d12⟩ := h
    exact ⟨w, _, T1, un T2 U, rfl, h1, RepL.setAt j h2 q (dj.mono Sub.refl s2), fun a z => .inl (s1 a z), fun a z => z.elim (fun z => .inl (s2 a z)) .inr, fun a x y => y.elim (fun y => d12 a x y) fun y => dj a y (s1 a x)⟩
/-- x[y] = .., x the list in the slot i -/
def gSet (i : Nat) (y : EX) : TX := fun d E => if isLst i E = true then (y E).bind fun s => match s.1, s.2[i]? with
  | .int k, some (some (.lst xs)) => (ixN xs.length k).map fun j => s.2.set i (some (.lst (xs.set j d)))
  | _, _ => none else none
section
variable {X : Cx} {pos : Pos} {pin : Nat → Bool} {o e : Expr} {i : Nat} {p : Bool}
theorem dg_set {y : EX} (ho : PE X o (tVar i)) (he : DE X p e y)
    (ha : ∀ v, assign (.Subscript o e pos) X.env v = (do
      let ov ← holding [v] (eval o X.env)
      let iv ← holding [v, ov] (eval e X.env)
      standAt pos
      holding [v, ov, iv] (setItem ov iv v)
      release [v, ov, iv] []) := by intro _; rfl) : DG X pin (.Subscript o e pos) (gSet i y) := by
  refine PG.imp (pg_sub ho he set_list ha) fun v σ H Q w => ?_
  obtain ⟨E, S, d, T, E', r, z, dj, m, e1, w⟩ := w
  unfold gSet at e1
  split at e1
  case isFalse => cases e1
  rename_i hi
  simp only [Option.bind_eq_some_iff] at e1
  obtain ⟨⟨d1, E1⟩, e1, e2⟩ := e1
  split at e2
  case h_2 => cases e2
  rename_i k xs ek ex
  have ek : d1 = .int k := ek
  subst ek
  obtain ⟨j, ej, ee⟩ := Option.map_eq_some_iff.mp e2
  subst ee
  obtain ⟨a, hv, _⟩ := slot_isLst r hi
  refine ⟨.ref a, hv, E, S, .int k, E1, r, e1, fun u H1 S1 T1 s1 k1 o1 _ => ?_⟩
  cases k1
  obtain ⟨a', vs, T0, hv', hH, haS, nT, sT, l⟩ := slot_list s1.env ex
  rw [hv] at hv'
  cases hv'
  have z1 : Rep X.K H1 d v T := z.frm s1.frm r.mu dj
  have dj1 : Disj T (tot S1) := s1.new.disj dj m
  have m1 : Mu H1 T := m.frm s1.frm dj
  have l1 := l.setAt j z1 (dj1.mono Sub.refl fun b q => ⟨i, sT b q⟩)
  have nu : ¬ (un T0 T) a := fun q => q.elim nT fun q => dj1 a q ⟨i, haS⟩
  have ma : Mu H1 (fun b => b = a) := fun b q => by
    have q : b = a := q
    rw [q]; exact s1.env.mu a ⟨i, haS⟩
  have l2 := l1.frm (S := fun b => b = a) (H' := upd H1 a (.lst (vs.set j v))) (Frm.upd rfl) ma fun b q q2 => by
    have q2 : b = a := q2
    rw [q2] at q
    exact nu q
  have sU : Sub (un T0 T) (un (S1 i) T) := fun b q => q.elim (fun q => .inl (sT b q)) .inr
  have s2 : Stp X.K σ (un (tot S) T) H E1 S1 H1 := ⟨s1.env, s1.frm.mono fun b q => .inl q, fun b q => (s1.new b q).elim (fun q => .inl (.inl q)) .inr⟩
  have o2 : Ow (un (tot S) T) H S1 H1 T := ⟨dj1, m1, fun b q => .inl (.inr q)⟩
  have R : Rep X.K (upd H1 a (.lst (vs.set j v))) (.lst (xs.set j d)) (.ref a) (un (S1 i) T) := ⟨a, _, un T0 T, rfl, upd_same, .inl haS, nu, sU, l2⟩
  have M := mut_ok s2 o2 hv (Frm.upd haS) R Sub.refl (Mu.upd ((s1.env.mui i).un m1) rfl)
  refine ⟨a, vs, k, j, rfl, rfl, hH, by rw [l.length]; exact ej, w σ _ _ M.env M.frm M.new PinEq.refl⟩
/-- x op= e, ints -/
def sAugI (pin : Nat → Bool) (i : Nat) (f : Int → Int → Int) (y : EX) : SX := fun E => match E[i]? with
  | some (some (.int a)) => (y E).bind fun s => match s.1 with
    | .int b => if pin i = true then none else some (.nx, s.2.set i (some (.int (f a b))))
    | _ => none
  | _ => none
theorem ds_augI {op : Operator} {f : Int → Int → Int} {x : Str} {y : EX} {pos' : Pos} (hp : PIp X op (ipI f)) (hN : X.N.Nodup) (hi : X.N[i]? = some x) (hx : Loc X.env.scope x) (he : DE X p e y)
    (hf : X.fn x = true ∨ X.env.scope.names.lookup x = some .local := by first | exact .inl rfl | exact .inr rfl | assumption) : DS X pin (.AugAssign (.Name x pos') op e pos) (sAugI pin i f y) := by
  refine PS.imp (ps_aug hN hi hx he hp hf) fun Z σ H w => ?_
  obtain ⟨E, S, fl, E', r, e1, w⟩ := w
  unfold sAugI at e1
  split at e1
  case h_2 => cases e1
  rename_i a ea
  simp only [Option.bind_eq_some_iff] at e1
  obtain ⟨⟨d1, E1⟩, e1, e2⟩ := e1
  split at e2
  case h_2 => cases e2
  rename_i b eb
  have eb : d1 = .int b := eb
  subst eb
  split at e2
  · cases e2
  rename_i np
  cases e2
  obtain ⟨v, hv, hr⟩ := r.at_ i _ ea
  cases hr
  refine ⟨.int a, hv, E, S, .int b, E1, r, e1, fun u H1 S1 T1 s1 k1 o1 _ => ?_⟩
  cases k1
  refine ⟨a, b, rfl, rfl, ?_⟩
  have r1 := s1.env.set (i := i) (d := .int (f a b)) (v := .int (f a b)) (T := no) rfl Disj.no_l Mu.nil
  refine w _ H1 _ ⟨r1, s1.frm, fun c h => ?_⟩ (PinEq.set (by simpa using np))
  rcases tot_set c h with h | h
  · exact h.elim
  · exact s1.new c h
/-- a, b, c = x, y, z: names -/
theorem ds_par3 {i j l : Nat} {ρ : OXs} {st : Stmt} (h : PS X st (tPar3 i j l (tOs X.K p ρ))) : DS X pin st (sPar3 pin i j l ρ) := PS.imp h fun _ _ _ w => par3_ok w
end
end Dn
end
section
/-! Dn14: what a module's defs ask. -/
namespace Dn
open PySem PySem.Spec L2

/-- names that the module leaves to the built-ins -/
structure Fr (mg : Str → Option Value) : Prop where
  abs : mg "abs" = none
  all : mg "all" = none
  any : mg "any" = none
  bool : mg "bool" = none
  dict : mg "dict" = none
  divmod : mg "divmod" = none
  enumerate : mg "enumerate" = none
  int : mg "int" = none
  isinstance : mg "isinstance" = none
  len : mg "len" = none
  list : mg "list" = none
  max : mg "max" = none
  min : mg "min" = none
  range : mg "range" = none
  repr : mg "repr" = none
  reversed : mg "reversed" = none
  set : mg "set" = none
  sorted : mg "sorted" = none
  str : mg "str" = none
  sum : mg "sum" = none
  tuple : mg "tuple" = none
  zip : mg "zip" = none
/-- a def of the module that is F -/
structure Has (P : Program) (w : World) (K : PySem.W.Frag) (mg : Str → Option Value) (base : Heap) (k : Nat) (x : Str) (F : FN) : Prop where
  len : ∀ ds io r, F ds io = some r → r.2.length = ds.length
  ex : ∃ (f : Addr) (fd : FuncData) (ps : List Str), FnG P w K mg base k f fd ps (spF K F) ∧ mg x = some (.ref f) ∧ PySem.W.keepIn K (.ref f) = true ∧ Binds K fd ps []
theorem room_hu {k : Nat} {A : Around} (r : Room k A) : A.units + 65 < cLine := by have := r.un; omega
theorem room_hu4 {k : Nat} {A : Around} (r : Room k A) : A.units + 64 < cLine := by have := r.un; omega
theorem room_hu6 {k : Nat} {A : Around} (r : Room k A) : A.units + 60 < cLine := by have := r.un; omega
section
variable {X : Cx} {p : Bool} {e : Expr} {es : List Expr} {pos : Pos}
theorem de_callN {j k : Nat} {x : Str} {F : FN} {np : Pos} {ρ : OXs} (c : Has X.prog X.w X.K X.mg X.base j x F) (room : Room k X.A) (hgd : X.A.guards = some []) (hg : Gl X x) (ha : DOs X p (e :: es) ρ) (hj : j ≤ k := by decide) (hdb : (x == ("__debug__" : Str)) = false := by decide)
    (he : starEach (e :: es) X.env = (false, eval e X.env) :: starEach es X.env := by rfl) (hpl : (backTo pos (starEach es X.env)).any (·.1) = false := by rfl) : DE X false (.Call (.Name x np) (e :: es) [] pos) (eF F ρ) := by
  obtain ⟨f, fd, ps, G, hm, kp, hb⟩ := c.ex
  exact de_call G c.len (room.mono hj) hgd hg hm kp hb ha hdb he hpl
end
/-- a def of the module is F, by its body: what the head says of it -/
theorem hasF {P : Program} {w : World} {K : PySem.W.Frag} {mg : Str → Option Value} {base : Heap} {f : Addr} {fd : FuncData} {x qual : Str} {params : Arguments} {body : List Stmt} {scope : Scope} {N ps : List Str} {k np n : Nat} {B : (Nat → Bool) → SX}
    (F : FunD K x qual params body scope [] [] f fd) (hm : mg x = some (.ref f)) (hb : Binds K fd ps []) (sc : FnScope N ps scope) (hn : N.length = n) (hp : ps.length = np)
    (hbd : ∀ (cd : Value) (A : Around) (fr : List PySem.Env) (s : Shared) (H : Hp) (E : XK), Room k (A.deeper (PyProof.Rows.envOfC qual scope s.heap.objs.size f cd)) → (A.deeper (PyProof.Rows.envOfC qual scope s.heap.objs.size f cd)).guards = some [] →
      ∀ pin : Nat → Bool, DSs (cxOf CX0 P w K mg base N qual scope f cd A fr s H E).nox pin body (B pin)) : Has P w K mg base (k + 1) x (mkF np n B) :=
  ⟨mkF_len, f, fd, ps, fnF F sc hn hp hbd, hm, F.kp, hb⟩
abbrev sl0 : Nat → Bool := fun _ => false
abbrev sl1 (i : Nat) : Nat → Bool := fun j => j == i
abbrev sl2 (i l : Nat) : Nat → Bool := fun j => j == i || j == l
abbrev pu (sl pin : Nat → Bool) : Nat → Bool := fun i => sl i || pin i
/-- all but the block's own -/
abbrev po (own : List Nat) : Nat → Bool := fun i => !own.contains i
theorem in_sl1 {i : Nat} : sl1 i i = true := beq_self_eq_true i
theorem in_sl2a {i l : Nat} : sl2 i l i = true := by simp [sl2]
theorem in_sl2b {i l : Nat} : sl2 i l l = true := by simp [sl2]
end Dn
end
section
/-! Dn15: the law's call from outside. -/
namespace Dn
open PySem PySem.Spec L2
/-- the script's object -/
abbrev scriptO (us : List Value) : Obj := { cls := .type "list", data := .seq us.toArray }
/-- what is tracked at the law's call: the script, where the module has it not -/
def topH (K : PySem.W.Frag) (q : Addr) (us : List Value) (zs : List Int) : Hp := fun b => if b = q ∧ K.lookup q = none then some (.frz (scriptO us) (.lst (zs.map V.int))) else none
section
variable {K : PySem.W.Frag} {q b : Addr} {us : List Value} {zs : List Int} {u : HO}
theorem topH_some (h : topH K q us zs b = some u) : b = q ∧ K.lookup q = none ∧ u = .frz (scriptO us) (.lst (zs.map V.int)) := by
  unfold topH at h
  split at h
  · rename_i c
    exact ⟨c.1, c.2, (Option.some.inj h).symm⟩
  · cases h
theorem topH_only : Only (topH K q us zs) := fun b => by
  cases e : topH K q us zs b with
  | none => exact .inl rfl
  | some u => exact .inr ⟨_, _, by rw [(topH_some e).2.2]⟩
end
section
variable {P : Program} {w : World} {K : PySem.W.Frag} {mg mb : Str → Option Value} {t : Shared} {q : Addr} {us : List Value} {zs : List Int}
/-- the heap behind the script: what the module's own facts speak of -/
theorem top_base (kin : K.In t.heap) (obj : t.heap.get? q = some (scriptO us)) (ng : t.heap.Ns mainGlobals mg) (nb : t.heap.Ns builtinsNs mb) (boot : ∀ x : Str, x ≠ "__name__" → mb x = bootBuiltins x) (lim : t.heap.NoLimit) : Mod K mg (hidT t.heap (topH K q us zs)) := by
  have free : ∀ {b : Addr} {o : Obj}, t.heap.get? b = some o → o ≠ scriptO us ∨ K.lookup q ≠ none → topH K q us zs b = none := fun {b o} e no => by
    cases h : topH K q us zs b with
    | none => rfl
    | some u =>
      obtain ⟨h1, h2, _⟩ := topH_some h
      rw [h1, obj] at e
      exact no.elim (fun n => (n (Option.some.inj e).symm).elim) fun n => (n h2).elim
  have names : ∀ {b : Addr} {m : Str → Option Value}, t.heap.Ns b m → (hidT t.heap (topH K q us zs)).Ns b m := fun {b m} n => by
    obtain ⟨o, es, ep, e, dt, rest⟩ := n
    exact ⟨o, es, ep, hidT_get e (free e (.inl fun z => by rw [z] at dt; cases dt)), dt, rest⟩
  refine ⟨fun b o e => ?_, names ng, ⟨mb, names nb, boot⟩, ?_⟩
  · have g := kin b o e
    refine hidT_get g ?_
    cases h : topH K q us zs b with
    | none => rfl
    | some u =>
      obtain ⟨h1, h2, _⟩ := topH_some h
      rw [h1, h2] at e
      cases e
  · obtain ⟨mc, c1, c2⟩ := lim
    exact ⟨mc, names c1, c2⟩
/-- THE LAW IS TRUE, by its promise -/
theorem call_top {k : Nat} {fa : Addr} {fd : FuncData} {x : Str} {F : FN} (kin : K.In t.heap) (ng : t.heap.Ns mainGlobals mg) (nb : t.heap.Ns builtinsNs mb) (boot : ∀ x : Str, x ≠ "__name__" → mb x = bootBuiltins x) (lim : t.heap.NoLimit) (bare : t.gens = #[])
    (obj : t.heap.get? q = some (scriptO us)) (hi : PyProof.Rows.IntsAre us zs) (hz : zs.length ≤ sizeLine) (room : Room k callerA)
    (G : ∀ base : Heap, K.In base → base.Ns mainGlobals mg → FnG P w K mg base k fa fd [x] (spF K F)) (bnd : ∀ (s : Shared) (u : Value), BindsTo s fd ⟨[u], []⟩ [(x, u)])
    (yes : ∃ E, F [.frz (zs.map D.int)] [false] = some (.bl true, E)) :
    codeAny (model P w) callerA (.call (.ref fa) ⟨[.ref q], []⟩) (fun r s' => r = .ok (.ret (.bool true)) ∧ OldK t.heap s'.heap ∧ s'.os = t.os ∧ PyProof.Rows.AllBare s'.gens) t := by
  have rv := vals_ints hi
  have M := top_base (zs := zs) kin obj ng nb boot lim
  have hok : HOk P w (topH K q us zs) t.heap := fun b u h => by
    obtain ⟨rfl, _, rfl⟩ := topH_some h
    exact ⟨obj, by rw [List.length_map]; exact hz, us, _, rv, obj⟩
  have seq : SqF K (topH K q us zs) q (zs.map V.int) := by
    cases hk : K.lookup q with
    | none => exact .inl ⟨scriptO us, if_pos ⟨rfl, hk⟩⟩
    | some o =>
      have e := kin q o hk
      rw [obj] at e
      cases e
      exact .inr ⟨_, us.toArray, _, hk, rfl, rfl, rfl, by rw [List.size_toArray, hi.length]; exact hz, rv⟩
  obtain ⟨E, yes⟩ := yes
  have e0 : Env0 P w K mg (hidT t.heap (topH K q us zs)) callerA [] t (topH K q us zs) := by
    refine ⟨rfl, M, fun b o e => of_hidT e, Nat.le_of_eq (hidT_size _ _), trivial, ?_, hok, .of_eq bare⟩
    exact fun b hb => nomatch hb
  have promise : spF K F [.ref q] (topH K q us zs) (fun v _ => v = .bl true) fun _ _ _ => False := by
    refine ⟨[.frz (zs.map D.int)], [false], fun _ => no, .bl true, E, yes, ⟨rfl, fun i d e => ?_, fun _ _ _ => Disj.no_l, fun _ h => h.elim fun _ h => h.elim⟩, fun v H' S' T _ z _ => z⟩
    match i, e with
    | 0, e =>
      cases e
      exact ⟨.ref q, rfl, q, _, rfl, seq, repL_ints zs⟩
    | i + 1, e => cases e
  refine codeAny_mono ((G _ M.kin M.glob).run callerA [] t (topH K q us zs) ⟨[.ref q], []⟩ [.ref q] [.ref q] _ _ room rfl e0 (bnd t (.ref q)) (.cons rfl .nil) promise) fun r s' h => ?_
  match r, h with
  | .ok (.ret u), h =>
    obtain ⟨v, H', os, bare', un, hok', rel, is⟩ := h
    have is : v = .bl true := is
    subst is
    cases rel
    refine ⟨rfl, OldK.of_keep fun b o e => ?_, os, bare'⟩
    cases h : topH K q us zs b with
    | none => exact un.keep b o e h (fun z => nomatch z) (fun z => nomatch z)
    | some u =>
      obtain ⟨rfl, _, rfl⟩ := topH_some h
      obtain ⟨g, _⟩ := hok' _ _ (un.frzs _ _ _ h)
      rw [obj] at e
      cases e
      exact g
end
/-- the head's last wish, by the law's promise -/
theorem walk_top {l : PySem.W.OpenLaw} {n k : Nat} {q : Program} {loose : List Str} {XP : (Str → Option Value) → Heap → Prop} {YP : World → Heap → Prop} {d : DefRec} {x : Str} {F : FN}
    (most : l.most = some n) (hn : n ≤ sizeLine) (dfl : d.params.defaults = []) (room : Room k callerA)
    (G : ∀ (w : World) (mg : Str → Option Value) (fa : Addr) (h : Heap), YP w h → h.Ns mainGlobals mg → mg d.name = some (.ref fa) →
      ∃ (K : PySem.W.Frag) (fd : FuncData), K.In h ∧ (∀ (s : Shared) (u : Value), BindsTo s fd ⟨[u], []⟩ [(x, u)]) ∧ ∀ base : Heap, K.In base → base.Ns mainGlobals mg → FnG l.prog w K mg base k fa fd [x] (spF K F))
    (yes : ∀ zs : List Int, zs.length ≤ n → ∃ E, F [.frz (zs.map D.int)] [false] = some (.bl true, E)) :
    PySem.W.WalkO q loose XP YP l.row.toRowW d [] (fun f vs => PySem.call f vs) := by
  refine Att.attach_call most dfl fun w s₀ s₁ mg mb fa o pm cd doc a vs zs Gr Y _ _ _ hmg hobj hints hlen hg => ?_
  obtain ⟨K, fd, KX, hb, hG⟩ := G w mg fa _ Y Gr.T.g hmg
  exact call_top KX Gr.T.g Gr.T.b Gr.T.builtins Gr.T.nolimit hg hobj hints (Nat.le_trans hlen hn) room hG hb (yes zs hlen)
end Dn
end
section
/-! Dn16: how what is generated is worked out. -/
namespace Dn
open PySem PySem.Spec L2

/-! ### unfolding -/
section
variable {E E1 : Env} {i : Nat} {d : D}
@[simp] theorem ev_oE (ρ : EX) : oE ρ E = (ρ E).map fun s => (.own s.1, s.2) := by unfold oE; cases ρ E <;> rfl
@[simp] theorem ev_oV : oV i E = match E[i]? with
  | some (some _) => some (.slot i, E)
  | _ => none := rfl
@[simp] theorem ev_rd_own : rd (.own d) E = some d := rfl
@[simp] theorem ev_rd_slot : rd (.slot i) E = match E[i]? with
  | some (some d) => some d
  | _ => none := rfl
@[simp] theorem ev_eK : eK d E = some (d, E) := rfl
@[simp] theorem ev_eV : eV i E = match E[i]? with
  | some (some d) => if d.imm = true then some (d, E) else some (d, E.set i none)
  | _ => none := rfl
@[simp] theorem ev_eOp2 (o : D → D → Option D) (x y : OX) : eOp2 o x y E = (x E).bind fun s => (y s.2).bind fun t => (rd s.1 t.2).bind fun u => (rd t.1 t.2).bind fun w => (o u w).map fun d => (d, t.2) := rfl
@[simp] theorem ev_eUn (o : D → Option D) (x : OX) : eUn o x E = (x E).bind fun s => (rd s.1 s.2).bind fun u => (o u).map fun d => (d, s.2) := rfl
@[simp] theorem ev_bE (ρ : EX) : bE ρ E = (ρ E).bind fun s => match s.1 with
  | .bl b => some (b, s.2)
  | _ => none := rfl
@[simp] theorem ev_bNot (t : BX) : bNot t E = (t E).map fun s => (!s.1, s.2) := rfl
@[simp] theorem ev_bAnd (t u : BX) : bAnd t u E = (t E).bind fun s => if s.1 = true then u s.2 else some (false, s.2) := rfl
@[simp] theorem ev_bOr (t u : BX) : bOr t u E = (t E).bind fun s => if s.1 = true then some (true, s.2) else u s.2 := rfl
@[simp] theorem ev_eIf (t : BX) (x y : EX) : eIf t x y E = (t E).bind fun s => if s.1 = true then x s.2 else y s.2 := rfl
@[simp] theorem ev_eAnd (x y : EX) : eAnd x y E = (bE x E).bind fun s => if s.1 = true then y s.2 else some (.bl false, s.2) := rfl
@[simp] theorem ev_eOr (x y : EX) : eOr x y E = (bE x E).bind fun s => if s.1 = true then some (.bl true, s.2) else y s.2 := rfl
@[simp] theorem ev_eNot (x : EX) : eNot x E = (bE x E).map fun s => (.bl (!s.1), s.2) := rfl
@[simp] theorem ev_osNil : osNil E = some ([], E) := rfl
@[simp] theorem ev_osCons (x : OX) (r : OXs) : osCons x r E = (x E).bind fun s => (r s.2).map fun t => (s.1 :: t.1, t.2) := rfl
@[simp] theorem ev_rds_nil : rds [] E = some [] := rfl
@[simp] theorem ev_rds_cons (t : Tk) (ts : List Tk) : rds (t :: ts) E = (rd t E).bind fun d => (rds ts E).map fun r => d :: r := by
  show (match rd t E, rds ts E with | some d, some ds => some (d :: ds) | _, _ => none) = _
  cases rd t E <;> cases rds ts E <;> rfl
@[simp] theorem ev_owns_nil : owns [] = some [] := rfl
@[simp] theorem ev_owns_own (ts : List Tk) : owns (.own d :: ts) = (owns ts).map fun r => d :: r := rfl
@[simp] theorem ev_owns_map {α : Type} (f : α → D) (zs : List α) (ts : List Tk) : owns (zs.map (Tk.own ∘ f) ++ ts) = (owns ts).map fun r => zs.map f ++ r := by
  induction zs with
  | nil => simp
  | cons z r ih =>
    show (owns (r.map (Tk.own ∘ f) ++ ts)).map _ = _
    rw [ih]
    cases owns ts <;> rfl
@[simp] theorem ev_owns_own0 (xs : List D) (ts : List Tk) : owns (xs.map Tk.own ++ ts) = (owns ts).map fun r => xs ++ r := by
  have q := ev_owns_map (fun d => d) xs ts
  rw [List.map_id'] at q
  exact q
@[simp] theorem ev_osStar (x : OX) (r : OXs) : osStar x r E = (x E).bind fun s => (rd s.1 s.2).bind fun d => d.seq?.bind fun xs => if D.imms xs = true then (r s.2).map fun t => (xs.map Tk.own ++ t.1, t.2) else none := rfl
@[simp] theorem seq_tup (xs : List D) : (D.tup xs).seq? = some xs := rfl
@[simp] theorem seq_lst (xs : List D) : (D.lst xs).seq? = some xs := rfl
@[simp] theorem ev_eCa (o : List D → Option D) (r : OXs) : eCa o r E = (r E).bind fun s => (rds s.1 s.2).bind fun ds => (o ds).map fun d => (d, s.2) := rfl
@[simp] theorem ev_eTup (r : OXs) : eTup r E = (r E).bind fun s => (owns s.1).bind fun ds => if ds.length ≤ 1000 then some (.tup ds, s.2) else none := rfl
@[simp] theorem ev_eLst (r : OXs) : eLst r E = (r E).bind fun s => (owns s.1).bind fun ds => if ds.length ≤ 1000 then some (.lst ds, s.2) else none := rfl
@[simp] theorem ev_eSl (o : D → Option Int → Option Int → Option D) (x : OX) (l u : PX) : eSl o x l u E = (x E).bind fun s => (l s.2).bind fun t => (u t.2).bind fun k => (rd s.1 k.2).bind fun d => (o d t.1 k.1).map fun d => (d, k.2) := rfl
@[simp] theorem ev_pNo : pNo E = some (none, E) := rfl
@[simp] theorem ev_pE (x : EX) : pE x E = (x E).bind fun s => match s.1 with
  | .int i => some (some i, s.2)
  | _ => none := rfl
@[simp] theorem ev_sNil : sNil E = some (.nx, E) := rfl
@[simp] theorem ev_sSeq (x y : SX) : sSeq x y E = (x E).bind fun s => match s.1 with
  | .nx => y s.2
  | f => some (f, s.2) := rfl
@[simp] theorem ev_sIf (t : BX) (x y : SX) : sIf t x y E = (t E).bind fun s => if s.1 = true then x s.2 else y s.2 := rfl
@[simp] theorem ev_sAsg (x : EX) (τ : TX) : sAsg x τ E = (x E).bind fun s => (τ s.1 s.2).map fun E2 => (.nx, E2) := rfl
@[simp] theorem ev_sExp (x : EX) : sExp x E = (x E).map fun s => (.nx, s.2) := rfl
@[simp] theorem ev_sRet (x : EX) : sRet x E = (x E).map fun s => (.rt s.1, s.2) := rfl
@[simp] theorem ev_gN (pin : Nat → Bool) : gN pin i d E = if pin i = true then none else some (E.set i (some d)) := rfl
@[simp] theorem ev_gTup (n : Nat) (τ : TXs) (ds : List D) : gTup n τ (.tup ds) E = if ds.length = n then τ ds E else none := rfl
@[simp] theorem ev_gsNil : gsNil [] E = some E := rfl
@[simp] theorem ev_gsCons (τ : TX) (r : TXs) (ds : List D) : gsCons τ r (d :: ds) E = (τ d E).bind fun E1 => r ds E1 := rfl
@[simp] theorem ev_isLst : isLst i E = match E[i]? with
  | some (some (.lst _)) => true
  | _ => false := rfl
@[simp] theorem ev_eMut1 (f : List D → D → Option (D × List D)) (y : EX) : eMut1 i f y E = if isLst i E = true then (y E).bind fun s => match s.2[i]? with
  | some (some (.lst xs)) => (f xs s.1).map fun u => (u.1, s.2.set i (some (.lst u.2)))
  | _ => none else none := rfl
@[simp] theorem ev_gSet (y : EX) : gSet i y d E = if isLst i E = true then (y E).bind fun s => match s.1, s.2[i]? with
  | .int k, some (some (.lst xs)) => (ixN xs.length k).map fun j => s.2.set i (some (.lst (xs.set j d)))
  | _, _ => none else none := rfl
@[simp] theorem ev_eF (F : FN) (args : OXs) : eF F args E = (args E).bind fun s => (rds s.1 s.2).bind fun ds => if apart (ioSl s.1 (ioOf s.1 ds)) = true then (F ds (ioOf s.1 ds)).map fun r => (r.1, putOuts s.1 (ioOf s.1 ds) r.2 s.2) else none := rfl
end
@[simp] theorem pin_cons0 (b : Bool) (r : List Bool) : pinOf (b :: r) 0 = b := rfl
@[simp] theorem pin_consS (b : Bool) (r : List Bool) (i : Nat) : pinOf (b :: r) (i + 1) = pinOf r i := rfl
@[simp] theorem pin_nil (i : Nat) : pinOf [] i = false := rfl
@[simp] theorem atI_0 {α : Type} (x : α) (xs : List α) : L2.atI (x :: xs) 0 = some x := by
  unfold L2.atI ixN
  simp
theorem atI_nat {α : Type} (xs : List α) (n : Nat) : L2.atI xs (n : Int) = xs[n]? := by
  unfold L2.atI ixN
  rw [if_pos (Int.natCast_nonneg n)]
  by_cases h : n < xs.length
  · rw [if_pos (by omega)]
    rfl
  · rw [if_neg (by omega), List.getElem?_eq_none (by omega)]
    rfl
theorem atI_m1 {α : Type} (xs : List α) : L2.atI xs (-1) = xs.getLast? := by
  unfold L2.atI ixN
  rw [if_neg (by decide)]
  cases xs with
  | nil => rfl
  | cons x r =>
    rw [if_pos (by simp only [List.length_cons]; omega), Option.bind_some, List.getLast?_eq_getElem?]
    congr 1
    simp only [List.length_cons]
    omega
@[simp] theorem atI_1 {α : Type} (xs : List α) : L2.atI xs 1 = xs[1]? := atI_nat xs 1
@[simp] theorem atI_2 {α : Type} (xs : List α) : L2.atI xs 2 = xs[2]? := atI_nat xs 2
@[simp] theorem atI_3 {α : Type} (xs : List α) : L2.atI xs 3 = xs[3]? := atI_nat xs 3
@[simp] theorem atI_4 {α : Type} (xs : List α) : L2.atI xs 4 = xs[4]? := atI_nat xs 4
@[simp] theorem cast_eq (a b : Nat) : ((a : Int) = (b : Int)) = (a = b) := propext (by omega)
end Dn
end
section
/-! Dn17: loops by invariants; lists of ints. -/
namespace Dn
open PySem PySem.Spec L2

/-! ### loops -/
def flGo (pl : Plan) (τ : TX) (b : SX) (m j : Nat) (f : Fl) (E : Env) : Option (Fl × Env) := match f with
  | .nx => forGo pl τ b m j E
  | .ct => forGo pl τ b m j E
  | .bk => some (.nx, E)
  | .rt d => some (.rt d, E)
theorem forGo_step {pl : Plan} {τ : TX} {b : SX} {m j : Nat} {E E1 E2 : Env} {d : D} {f : Fl} (e1 : pl.item E j = some d) (e2 : τ d E = some E1) (e3 : b E1 = some (f, E2)) : forGo pl τ b (m + 1) j E = flGo pl τ b m (j + 1) f E2 := by
  show ((pl.item E j).bind fun d => (τ d E).bind fun E1 => (b E1).bind fun u => _) = _
  rw [e1, Option.bind_some, e2, Option.bind_some, e3, Option.bind_some]
  cases f <;> rfl
theorem forGo_inv {pl : Plan} {τ : TX} {b : SX} (P : Nat → Env → Prop) (Post : Fl → Env → Prop)
    (step : ∀ (j : Nat) (E : Env), j < pl.n → P j E → ∃ d E1 f E2, pl.item E j = some d ∧ τ d E = some E1 ∧ b E1 = some (f, E2) ∧ match f with
      | .nx => P (j + 1) E2
      | .ct => P (j + 1) E2
      | .bk => Post .nx E2
      | .rt d => Post (.rt d) E2)
    (fin : ∀ E, P pl.n E → pl.stop E = true ∧ Post .nx E) : ∀ (m j : Nat) (E : Env), j + m = pl.n → P j E → ∃ f E', forGo pl τ b m j E = some (f, E') ∧ Post f E'
  | 0, j, E, h, p => by
    have hj : j = pl.n := by omega
    subst hj
    obtain ⟨h1, h2⟩ := fin E p
    exact ⟨.nx, E, by show (if pl.stop E = true then some (Fl.nx, E) else none) = _; rw [if_pos h1], h2⟩
  | m + 1, j, E, h, p => by
    obtain ⟨d, E1, f, E2, e1, e2, e3, q⟩ := step j E (by omega) p
    have e := forGo_step (m := m) e1 e2 e3
    cases f with
    | nx => rw [e]; exact forGo_inv P Post step fin m (j + 1) E2 (by omega) q
    | ct => rw [e]; exact forGo_inv P Post step fin m (j + 1) E2 (by omega) q
    | bk => exact ⟨_, _, e, q⟩
    | rt d => exact ⟨_, _, e, q⟩
theorem sFor_inv {ι : IX} {τ : TX} {b : SX} {E : Env} {pl : Plan} {E0 : Env} (hi : ι E = some (pl, E0)) (P : Nat → Env → Prop) (Post : Fl → Env → Prop) (h0 : P 0 E0)
    (step : ∀ (j : Nat) (E : Env), j < pl.n → P j E → ∃ d E1 f E2, pl.item E j = some d ∧ τ d E = some E1 ∧ b E1 = some (f, E2) ∧ match f with
      | .nx => P (j + 1) E2
      | .ct => P (j + 1) E2
      | .bk => Post .nx E2
      | .rt d => Post (.rt d) E2)
    (fin : ∀ E, P pl.n E → pl.stop E = true ∧ Post .nx E) : ∃ f E', sFor ι τ b E = some (f, E') ∧ Post f E' := by
  obtain ⟨f, E', e, q⟩ := forGo_inv P Post step fin pl.n 0 E0 (Nat.zero_add _) h0
  exact ⟨f, E', by show ((ι E).bind fun s => forGo s.1 τ b s.1.n 0 s.2) = _; rw [hi]; exact e, q⟩
theorem compGo_inv {pl : Plan} {own : List Nat} {τ : TX} {t : BX} {x : EX} (P : Nat → List D → Env → Prop)
    (step : ∀ (j : Nat) (acc : List D) (E : Env), j < pl.n → P j acc E → ∃ d E1 k E2, pl.item E j = some d ∧ τ d E = some E1 ∧ t E1 = some (k, E2) ∧
      ((k = false ∧ P (j + 1) acc (wipeE E2 own)) ∨ (k = true ∧ ∃ y E3, x E2 = some (y, E3) ∧ P (j + 1) (acc ++ [y]) (wipeE E3 own))))
    (fin : ∀ acc E, P pl.n acc E → pl.stop E = true) : ∀ (m j : Nat) (acc : List D) (E : Env), j + m = pl.n → P j acc E → ∃ ys E', compGo pl own τ t x m j acc E = some (ys, E') ∧ P pl.n ys E'
  | 0, j, acc, E, h, p => by
    have hj : j = pl.n := by omega
    subst hj
    exact ⟨acc, E, by show (if pl.stop E = true then some (acc, E) else none) = _; rw [if_pos (fin acc E p)], p⟩
  | m + 1, j, acc, E, h, p => by
    obtain ⟨d, E1, k, E2, e1, e2, e3, q⟩ := step j acc E (by omega) p
    have e : compGo pl own τ t x (m + 1) j acc E = if k = true then (x E2).bind fun y => compGo pl own τ t x m (j + 1) (acc ++ [y.1]) (wipeE y.2 own) else compGo pl own τ t x m (j + 1) acc (wipeE E2 own) := by
      show ((pl.item E j).bind fun d => (τ d E).bind fun E1 => (t E1).bind fun b => _) = _
      rw [e1, Option.bind_some, e2, Option.bind_some, e3, Option.bind_some]
    rcases q with ⟨hk, q⟩ | ⟨hk, y, E3, e4, q⟩
    · subst hk
      rw [e, if_neg Bool.false_ne_true]
      exact compGo_inv P step fin m (j + 1) acc _ (by omega) q
    · subst hk
      rw [e, if_pos rfl, e4, Option.bind_some]
      exact compGo_inv P step fin m (j + 1) _ _ (by omega) q
theorem eComp_inv {ι : IX} {own : List Nat} {τ : TX} {t : BX} {x : EX} {E : Env} {pl : Plan} {E0 : Env} (hi : ι E = some (pl, E0)) (hn : pl.n ≤ 100000) (P : Nat → List D → Env → Prop) (h0 : P 0 [] (wipeE E0 own))
    (step : ∀ (j : Nat) (acc : List D) (E : Env), j < pl.n → P j acc E → ∃ d E1 k E2, pl.item E j = some d ∧ τ d E = some E1 ∧ t E1 = some (k, E2) ∧
      ((k = false ∧ P (j + 1) acc (wipeE E2 own)) ∨ (k = true ∧ ∃ y E3, x E2 = some (y, E3) ∧ P (j + 1) (acc ++ [y]) (wipeE E3 own))))
    (fin : ∀ acc E, P pl.n acc E → pl.stop E = true) : ∃ ys E', eComp ι own τ t x E = some (.lst ys, backE E0 E' own) ∧ P pl.n ys E' := by
  obtain ⟨ys, E', e, q⟩ := compGo_inv P step fin pl.n 0 [] (wipeE E0 own) (Nat.zero_add _) h0
  refine ⟨ys, E', ?_, q⟩
  show ((ι E).bind fun s => if s.1.n ≤ 100000 then (compGo s.1 own τ t x s.1.n 0 [] (wipeE s.2 own)).map fun r => (D.lst r.1, backE s.2 r.2 own) else none) = _
  rw [hi, Option.bind_some, if_pos hn, e]
  rfl
/-- nothing changes: what each item gives -/
theorem eComp_map {ι : IX} {own : List Nat} {τ : TX} {t : BX} {x : EX} {E : Env} {pl : Plan} {E0 : Env} (n : Nat) (it : Nat → D) (b : Nat → Bool) (y : Nat → D) (hi : ι E = some (pl, E0)) (hl : pl.n = n) (hn : n ≤ 100000)
    (item : ∀ j : Nat, j < n → pl.item (wipeE E0 own) j = some (it j)) (stop : pl.stop (wipeE E0 own) = true)
    (step : ∀ j : Nat, j < n → ∃ E1 E2, τ (it j) (wipeE E0 own) = some E1 ∧ t E1 = some (b j, E2) ∧ (b j = false → wipeE E2 own = wipeE E0 own) ∧ (b j = true → ∃ E3, x E2 = some (y j, E3) ∧ wipeE E3 own = wipeE E0 own)) :
    eComp ι own τ t x E = some (.lst (((List.range n).filter b).map y), backE E0 (wipeE E0 own) own) := by
  subst hl
  obtain ⟨ys, E', e, h1, h2⟩ := eComp_inv (τ := τ) (t := t) (x := x) hi hn (fun j acc E => acc = ((List.range j).filter b).map y ∧ E = wipeE E0 own) ⟨rfl, rfl⟩ (fun j acc E hj p => by
    obtain ⟨rfl, rfl⟩ := p
    obtain ⟨E1, E2, e1, e2, e3, e4⟩ := step j hj
    refine ⟨it j, E1, b j, E2, item j hj, e1, e2, ?_⟩
    rw [List.range_succ, List.filter_append, List.map_append]
    cases hb : b j with
    | false => exact .inl ⟨rfl, by simp [hb], e3 hb⟩
    | true =>
      obtain ⟨E3, e5, e6⟩ := e4 hb
      exact .inr ⟨rfl, y j, E3, e5, by simp [hb], e6⟩) fun acc E p => by rw [p.2]; exact stop
  rw [e, h1, h2]
theorem range_filter_map {α β : Type} (xs : List α) (b : α → Bool) (y : α → β) (b' : Nat → Bool) (y' : Nat → β) (hb : ∀ (j : Nat) (x : α), xs[j]? = some x → b' j = b x) (hy : ∀ (j : Nat) (x : α), xs[j]? = some x → b x = true → y' j = y x) :
    ((List.range xs.length).filter b').map y' = (xs.filter b).map y := by
  induction xs generalizing b' y' with
  | nil => rfl
  | cons x xs ih =>
    rw [List.length_cons, List.range_succ_eq_map, List.filter_cons, List.filter_cons]
    have h0 := hb 0 x rfl
    have ih' := ih (b' ∘ Nat.succ) (y' ∘ Nat.succ) (fun j z h => hb (j + 1) z h) (fun j z h => hy (j + 1) z h)
    rw [List.filter_map]
    rw [h0]
    split
    · rename_i hx
      rw [List.map_cons, List.map_cons, List.map_map, ih', hy 0 x rfl hx]
    · rw [List.map_map, ih']
/-- over what stands in a slot, or a value -/
theorem eComp_seq {α : Type} {ρ : OX} {own : List Nat} {τ : TX} {t : BX} {x : EX} {E E0 : Env} {tk : Tk} {s : Sc} (zs : List α) (f : α → D) (b : α → Bool) (y : α → D) (hi : ρ E = some (tk, E0)) (hs : scOf tk E0 = some s) (hx : s.items E0 = some (zs.map f)) (hx2 : s.items (wipeE E0 own) = some (zs.map f)) (hn : zs.length ≤ 100000) (im : ∀ z ∈ zs, (f z).imm = true)
    (step : ∀ z ∈ zs, ∃ E1 E2, τ (f z) (wipeE E0 own) = some E1 ∧ t E1 = some (b z, E2) ∧ (b z = false → wipeE E2 own = wipeE E0 own) ∧ (b z = true → ∃ E3, x E2 = some (y z, E3) ∧ wipeE E3 own = wipeE E0 own)) :
    eComp (iSeq ρ) own τ t x E = some (.lst ((zs.filter b).map y), backE E0 (wipeE E0 own) own) := by
  have hp : iSeq ρ E = some (plSeq s (zs.map f).length, E0) := by
    show ((ρ E).bind fun t => (scOf t.1 t.2).bind fun s => (s.items t.2).map fun xs => (plSeq s xs.length, t.2)) = _
    rw [hi, Option.bind_some, hs, Option.bind_some, hx]
    rfl
  have hl : (zs.map f).length = zs.length := List.length_map ..
  cases zs with
  | nil =>
    have q := eComp_map (τ := τ) (t := t) (x := x) 0 (fun _ => .non) (fun _ => false) (fun _ => .non) hp rfl (Nat.zero_le _) (fun j h => absurd h (Nat.not_lt_zero j)) (by show (match s.items (wipeE E0 own) with | some xs => xs.length == 0 | none => false) = true; rw [hx2]; rfl) fun j h => absurd h (Nat.not_lt_zero j)
    exact q
  | cons z0 zr =>
    have get : ∀ (j : Nat) (z : α), (z0 :: zr)[j]? = some z → ((z0 :: zr)[j]?.getD z0) = z := fun j z h => by rw [h]; rfl
    have q := eComp_map (τ := τ) (t := t) (x := x) (z0 :: zr).length (fun j => f ((z0 :: zr)[j]?.getD z0)) (fun j => b ((z0 :: zr)[j]?.getD z0)) (fun j => y ((z0 :: zr)[j]?.getD z0)) hp hl hn (fun j h => by
        have e : (z0 :: zr)[j]? = some (z0 :: zr)[j] := List.getElem?_eq_getElem h
        show ((s.items (wipeE E0 own)).bind fun xs => if xs.length = ((z0 :: zr).map f).length then xs[j]?.bind fun x => if x.imm = true then some x else none else none) = _
        rw [hx2, Option.bind_some, if_pos rfl, List.getElem?_map, e]
        show (if (f (z0 :: zr)[j]).imm = true then some (f (z0 :: zr)[j]) else none) = _
        rw [if_pos (im _ (List.getElem_mem h))]
        rfl) (by
        show (match s.items (wipeE E0 own) with | some xs => xs.length == ((z0 :: zr).map f).length | none => false) = true
        rw [hx2]
        exact beq_self_eq_true _) fun j h => by
          have e : (z0 :: zr)[j]? = some (z0 :: zr)[j] := List.getElem?_eq_getElem h
          have e2 := get j _ e
          simp only [e2]
          exact step _ (List.getElem_mem h)
    rw [q, range_filter_map (z0 :: zr) b y _ _ (fun j z h => by rw [get j z h]) fun j z h _ => by rw [get j z h]]
@[simp] theorem filter_yes {α : Type} (xs : List α) : xs.filter (fun _ => true) = xs := List.filter_eq_self.mpr fun _ _ => rfl
/-! ### lists of ints, of lists of ints -/
abbrev tupI (ns : List Int) : D := .tup (ns.map D.int)
@[simp] theorem imm_int (i : Int) : (D.int i).imm = true := rfl
@[simp] theorem imm_bl (i : Bool) : (D.bl i).imm = true := rfl
@[simp] theorem imm_non : D.non.imm = true := rfl
@[simp] theorem imm_str (x : Str) : (D.str x).imm = true := rfl
@[simp] theorem imm_lst (xs : List D) : (D.lst xs).imm = false := rfl
@[simp] theorem imm_frz (xs : List D) : (D.frz xs).imm = true := rfl
@[simp] theorem imm_tup (xs : List D) : (D.tup xs).imm = D.imms xs := by rw [D.imm]
@[simp] theorem imms_nil : D.imms [] = true := by rw [D.imms]
@[simp] theorem imms_cons (x : D) (xs : List D) : D.imms (x :: xs) = (x.imm && D.imms xs) := by rw [D.imms]
@[simp] theorem imms_append (xs ys : List D) : D.imms (xs ++ ys) = (D.imms xs && D.imms ys) := imms_app
theorem imms_all : ∀ {xs : List D}, D.imms xs = true ↔ ∀ x ∈ xs, x.imm = true
  | [] => by simp
  | x :: xs => by simp [imms_all (xs := xs)]
theorem imms_map {α : Type} {f : α → D} {zs : List α} (h : ∀ z ∈ zs, (f z).imm = true) : D.imms (zs.map f) = true := imms_all.mpr fun x hx => by
  obtain ⟨z, hz, rfl⟩ := List.mem_map.mp hx
  exact h z hz
@[simp] theorem imms_ints (ns : List Int) : D.imms (ns.map D.int) = true := imms_map fun _ _ => rfl
@[simp] theorem intsD_ints (ns : List Int) : intsD (ns.map D.int) = some ns := intsD_map ns
@[simp] theorem blsD_bls (bs : List Bool) : blsD (bs.map D.bl) = some bs := blsD_map bs

/-! ### operations -/
section
variable {i j : Int} {xs ys : List D} {E : Env}
@[simp] theorem ev_eChain (o o' : D → D → Option D) (x y z : OX) : eChain o o' x y z E = (x E).bind fun s => (y s.2).bind fun t => (rd s.1 t.2).bind fun u => (rd t.1 t.2).bind fun w => (o u w).bind fun d => match d with
  | .bl false => some (.bl false, t.2)
  | .bl true => (z t.2).bind fun t3 => (rd t.1 t3.2).bind fun w => (rd t3.1 t3.2).bind fun w3 => (o' w w3).map fun d => (d, t3.2)
  | _ => none := rfl
@[simp] theorem op_add_ii : addD (.int i) (.int j) = some (.int (i + j)) := rfl
@[simp] theorem op_sub_ii : subD (.int i) (.int j) = some (.int (i - j)) := rfl
@[simp] theorem op_lt_ii : ltD (.int i) (.int j) = some (.bl (decide (i < j))) := rfl
@[simp] theorem op_le_ii : leD (.int i) (.int j) = some (.bl (decide (i ≤ j))) := rfl
@[simp] theorem op_gt_ii : gtD (.int i) (.int j) = some (.bl (decide (j < i))) := rfl
@[simp] theorem op_ge_ii : geD (.int i) (.int j) = some (.bl (decide (j ≤ i))) := rfl
theorem op_mod_ii (h : 0 < j) : modD (.int i) (.int j) = some (.int (i % j)) := if_pos h
theorem op_fdiv_ii (h : 0 < j) (h2 : j < 1073741824) : fdivD (.int i) (.int j) = some (.int (i / j)) := if_pos ⟨h, h2⟩
theorem op_mul_ii (h : (small64 i || small64 j) = true) : mulD (.int i) (.int j) = some (.int (i * j)) := if_pos h
@[simp] theorem op_neg_i : negD (.int i) = some (.int (-i)) := rfl
@[simp] theorem op_add_tt : addD (.tup xs) (.tup ys) = if xs.length + ys.length ≤ 100000 ∧ D.imms xs = true ∧ D.imms ys = true then some (.tup (xs ++ ys)) else none := rfl
@[simp] theorem op_add_ll : addD (.lst xs) (.lst ys) = if xs.length + ys.length ≤ 100000 ∧ D.imms xs = true ∧ D.imms ys = true then some (.lst (xs ++ ys)) else none := rfl
@[simp] theorem op_ix_t : ixD (.tup xs) (.int i) = match L2.atI xs i with
  | some d => if d.imm = true then some d else none
  | none => none := rfl
@[simp] theorem op_ix_l : ixD (.lst xs) (.int i) = match L2.atI xs i with
  | some d => if d.imm = true then some d else none
  | none => none := rfl
@[simp] theorem op_ix_f : ixD (.frz xs) (.int i) = match L2.atI xs i with
  | some d => if d.imm = true then some d else none
  | none => none := rfl
@[simp] theorem op_sl_t (lo hi : Option Int) : slD (.tup xs) lo hi = if D.imms xs = true then some (.tup (cutD xs lo hi)) else none := rfl
@[simp] theorem op_sl_l (lo hi : Option Int) : slD (.lst xs) lo hi = if D.imms xs = true then some (.lst (cutD xs lo hi)) else none := rfl
@[simp] theorem op_sl_f (lo hi : Option Int) : slD (.frz xs) lo hi = if D.imms xs = true then some (.lst (cutD xs lo hi)) else none := rfl
@[simp] theorem op_isN (x : D) : isND x .non = some (.bl x.isN) := by cases x <;> rfl
@[simp] theorem op_isNotN (x : D) : isNotND x .non = some (.bl (!x.isN)) := by cases x <;> rfl
@[simp] theorem isN_tup : (D.tup xs).isN = false := rfl
@[simp] theorem isN_non : D.non.isN = true := rfl
@[simp] theorem isN_int : (D.int i).isN = false := rfl
@[simp] theorem op_isB (a b : Bool) : isBD (.bl a) (.bl b) = some (.bl (decide (a = b))) := rfl
@[simp] theorem op_isNotB (a b : Bool) : isNotBD (.bl a) (.bl b) = some (.bl (!decide (a = b))) := rfl
@[simp] theorem op_isi (t : String) (d : D) : isiD t d = some (.bl (isiB d.ty t)) := rfl
@[simp] theorem ty_int : (D.int i).ty = "int" := rfl
@[simp] theorem ty_tup : (D.tup xs).ty = "tuple" := rfl
@[simp] theorem ty_lst : (D.lst xs).ty = "list" := rfl
@[simp] theorem ty_str (x : Str) : (D.str x).ty = "str" := rfl
@[simp] theorem ty_bl (b : Bool) : (D.bl b).ty = "bool" := rfl
@[simp] theorem ty_non : D.non.ty = "NoneType" := rfl
@[simp] theorem op_len_t : lenD [.tup xs] = some (.int xs.length) := rfl
@[simp] theorem op_len_l : lenD [.lst xs] = some (.int xs.length) := rfl
@[simp] theorem op_len_f : lenD [.frz xs] = some (.int xs.length) := rfl
@[simp] theorem op_all_m {α : Type} (p : α → Bool) (zs : List α) : allD [.lst (zs.map fun z => D.bl (p z))] = some (.bl (zs.all p)) := by
  have e : zs.map (fun z => D.bl (p z)) = (zs.map p).map D.bl := by rw [List.map_map]; rfl
  rw [e]
  simp only [allD, D.lst?, Option.bind_some, blsD_bls, Option.map_some, List.all_map]
  rfl
@[simp] theorem op_any_m {α : Type} (p : α → Bool) (zs : List α) : anyD [.lst (zs.map fun z => D.bl (p z))] = some (.bl (zs.any p)) := by
  have e : zs.map (fun z => D.bl (p z)) = (zs.map p).map D.bl := by rw [List.map_map]; rfl
  rw [e]
  simp only [anyD, D.lst?, Option.bind_some, blsD_bls, Option.map_some, List.any_map]
  rfl
@[simp] theorem op_sum_m {α : Type} (p : α → Int) (zs : List α) : sumD [.lst (zs.map fun z => D.int (p z))] = some (.int (zs.map p).sum) := by
  have e : zs.map (fun z => D.int (p z)) = (zs.map p).map D.int := by rw [List.map_map]; rfl
  rw [e]
  simp only [sumD, D.lst?, Option.bind_some, intsD_ints, Option.map_some]
@[simp] theorem op_sum_l (ns : List Int) : sumD [.lst (ns.map D.int)] = some (.int ns.sum) := by simp [sumD, D.lst?]
@[simp] theorem op_all_l (bs : List Bool) : allD [.lst (bs.map D.bl)] = some (.bl (bs.all id)) := by simp [allD, D.lst?]
@[simp] theorem op_any_l (bs : List Bool) : anyD [.lst (bs.map D.bl)] = some (.bl (bs.any id)) := by simp [anyD, D.lst?]
@[simp] theorem op_int_i : intOfD [.int i] = some (.int i) := rfl
@[simp] theorem op_int_b (b : Bool) : intOfD [.bl b] = some (.int (if b then 1 else 0)) := rfl
@[simp] theorem op_abs_i : absD [.int i] = some (.int (if i < 0 then -i else i)) := rfl
@[simp] theorem op_max2 : max2D [.int i, .int j] = some (.int (if j > i then j else i)) := rfl
@[simp] theorem op_min2 : min2D [.int i, .int j] = some (.int (if j < i then j else i)) := rfl
@[simp] theorem op_tupOf_l : tupOfD [.lst xs] = if D.imms xs = true then some (.tup xs) else none := rfl
@[simp] theorem op_tupOf_t : tupOfD [.tup xs] = if D.imms xs = true then some (.tup xs) else none := rfl
@[simp] theorem op_lstOf_l : lstOfD [.lst xs] = if D.imms xs = true then some (.lst xs) else none := rfl
@[simp] theorem op_lstOf_t : lstOfD [.tup xs] = if D.imms xs = true then some (.lst xs) else none := rfl
@[simp] theorem op_sort (ns : List Int) : sortD [.lst (ns.map D.int)] = some (.lst ((srt ns).map D.int)) := by simp [sortD, D.lst?]
@[simp] theorem op_setSort (ns : List Int) : setSortD (.tup (ns.map D.int)) = if ns.length < 64 then some (.lst ((srtS ns).map D.int)) else none := by simp [setSortD]
theorem op_app (x : D) (h : xs.length < 100000) : appF xs x = some (.non, xs ++ [x]) := if_pos h
end
theorem all_map_id {α : Type} (p : α → Bool) (zs : List α) : (zs.map p).all id = zs.all p := by rw [List.all_map]; rfl
theorem any_map_id {α : Type} (p : α → Bool) (zs : List α) : (zs.map p).any id = zs.any p := by rw [List.any_map]; rfl
theorem map_bl {α : Type} (p : α → Bool) (zs : List α) : zs.map (fun z => D.bl (p z)) = (zs.map p).map D.bl := by rw [List.map_map]; rfl
theorem map_int {α : Type} (p : α → Int) (zs : List α) : zs.map (fun z => D.int (p z)) = (zs.map p).map D.int := by rw [List.map_map]; rfl
/-! ### equality -/
section
theorem pys_ints (ns : List Int) : D.pys (ns.map D.int) = ns.map PyData.int := by rw [D.pys_map, List.map_map]; rfl
theorem depth_ints : ∀ ns : List Int, PyData.depthAll (ns.map PyData.int) = 0
  | [] => by simp [PyData.depthAll]
  | n :: r => by simp [PyData.depthAll, PyData.depth, depth_ints r]
theorem lay_ints : ∀ ns : List Int, PyData.canLayAll0 (ns.map PyData.int) = true
  | [] => by simp [PyData.canLayAll0]
  | n :: r => by simp [PyData.canLayAll0, PyData.canLay0, lay_ints r]
@[simp] theorem shp_int (i : Int) : (D.int i).shp = true := by simp [D.shp, D.py, SeqAt.shaped, PyData.canLay0, PyData.depth]
@[simp] theorem shp_bl (i : Bool) : (D.bl i).shp = true := by simp [D.shp, D.py, SeqAt.shaped, PyData.canLay0, PyData.depth]
@[simp] theorem shp_non : D.non.shp = true := by simp [D.shp, D.py, SeqAt.shaped, PyData.canLay0, PyData.depth]
@[simp] theorem shp_tI (ns : List Int) : (D.tup (ns.map D.int)).shp = true := by simp [D.shp, D.py, SeqAt.shaped, PyData.canLay0, PyData.depth, pys_ints, lay_ints, depth_ints]
@[simp] theorem shp_lI (ns : List Int) : (D.lst (ns.map D.int)).shp = true := by simp [D.shp, D.py, SeqAt.shaped, PyData.canLay0, PyData.depth, pys_ints, lay_ints, depth_ints]
@[simp] theorem shp_t0 : (D.tup []).shp = true := shp_tI []
@[simp] theorem shp_l0 : (D.lst []).shp = true := shp_lI []
@[simp] theorem eqv_int (i j : Int) : (D.int i).eqv (.int j) = decide (i = j) := by simp [D.eqv, D.py, PyData.eqv]; rfl
theorem eqvAll_ints : ∀ ns ms : List Int, PyData.eqvAll (ns.map PyData.int) (ms.map PyData.int) = decide (ns = ms)
  | [], [] => by simp [PyData.eqvAll]
  | [], _ :: _ => by simp [PyData.eqvAll]
  | _ :: _, [] => by simp [PyData.eqvAll]
  | n :: r, m :: q => by
    simp only [List.map_cons, PyData.eqvAll, PyData.eqv, eqvAll_ints r q]
    by_cases h : n = m <;> by_cases h2 : r = q <;> simp [h, h2]
@[simp] theorem eqv_tI (ns ms : List Int) : (D.tup (ns.map D.int)).eqv (.tup (ms.map D.int)) = decide (ns = ms) := by simp only [D.eqv, D.py, PyData.eqv, pys_ints, eqvAll_ints]
@[simp] theorem eqv_lI (ns ms : List Int) : (D.lst (ns.map D.int)).eqv (.lst (ms.map D.int)) = decide (ns = ms) := by simp only [D.eqv, D.py, PyData.eqv, pys_ints, eqvAll_ints]
@[simp] theorem eqv_tI0 (ns : List Int) : (D.tup (ns.map D.int)).eqv (.tup []) = decide (ns = []) := eqv_tI ns []
@[simp] theorem eqv_lI0 (ns : List Int) : (D.lst (ns.map D.int)).eqv (.lst []) = decide (ns = []) := eqv_lI ns []
@[simp] theorem has_ints (i : Int) (ns : List Int) : (D.int i).has (ns.map D.int) = decide (i ∈ ns) := by
  unfold D.has
  rw [List.any_map]
  induction ns with
  | nil => simp
  | cons n r ih =>
    rw [List.any_cons, ih]
    by_cases h : n = i
    · subst h; simp
    · have h2 : ¬ i = n := fun z => h z.symm
      simp [h, h2]
@[simp] theorem op_eq (x y : D) : eqD x y = if (x.shp && y.shp) = true then some (.bl (x.eqv y)) else none := rfl
@[simp] theorem op_ne (x y : D) : neD x y = if (x.shp && y.shp) = true then some (.bl (!x.eqv y)) else none := rfl
@[simp] theorem op_in_t (x : D) (ys : List D) : inD x (.tup ys) = if (x.shp && (D.tup ys).shp) = true then some (.bl (x.has ys)) else none := rfl
@[simp] theorem op_in_l (x : D) (ys : List D) : inD x (.lst ys) = if (x.shp && (D.lst ys).shp) = true then some (.bl (x.has ys)) else none := rfl
@[simp] theorem op_notIn_t (x : D) (ys : List D) : notInD x (.tup ys) = if (x.shp && (D.tup ys).shp) = true then some (.bl (!x.has ys)) else none := rfl
@[simp] theorem op_notIn_l (x : D) (ys : List D) : notInD x (.lst ys) = if (x.shp && (D.lst ys).shp) = true then some (.bl (!x.has ys)) else none := rfl
/-- of so much depth -/
def D.shN (n : Nat) (d : D) : Bool := PyData.canLay0 d.py && decide (d.py.depth ≤ n)
theorem shN_shp {n : Nat} {d : D} (h : d.shN n = true) (hn : n ≤ 64 := by decide) : d.shp = true := by
  unfold D.shN at h
  rw [Bool.and_eq_true, decide_eq_true_eq] at h
  unfold D.shp SeqAt.shaped
  rw [Bool.and_eq_true, decide_eq_true_eq]
  exact ⟨h.1, Nat.le_trans h.2 hn⟩
theorem shN_mono {m n : Nat} {d : D} (h : d.shN m = true) (hn : m ≤ n) : d.shN n = true := by
  unfold D.shN at h ⊢
  rw [Bool.and_eq_true, decide_eq_true_eq] at h ⊢
  exact ⟨h.1, Nat.le_trans h.2 hn⟩
theorem shN_all {n : Nat} : ∀ {xs : List D}, (∀ x ∈ xs, x.shN n = true) → PyData.canLayAll0 (D.pys xs) = true ∧ PyData.depthAll (D.pys xs) ≤ n
  | [], _ => by simp [D.pys, PyData.canLayAll0, PyData.depthAll]
  | x :: r, h => by
    have h1 := h x (List.mem_cons_self ..)
    have h2 := shN_all (xs := r) fun y hy => h y (List.mem_cons_of_mem _ hy)
    unfold D.shN at h1
    rw [Bool.and_eq_true, decide_eq_true_eq] at h1
    simp only [D.pys, PyData.canLayAll0, PyData.depthAll, Bool.and_eq_true]
    exact ⟨⟨h1.1, h2.1⟩, Nat.max_le.mpr ⟨h1.2, h2.2⟩⟩
theorem shN_tup {n : Nat} {xs : List D} (h : ∀ x ∈ xs, x.shN n = true) : (D.tup xs).shN (n + 1) = true := by
  obtain ⟨h1, h2⟩ := shN_all h
  simp only [D.shN, D.py, PyData.canLay0, PyData.depth, Bool.and_eq_true, decide_eq_true_eq]
  exact ⟨h1, Nat.succ_le_succ h2⟩
theorem shN_lst {n : Nat} {xs : List D} (h : ∀ x ∈ xs, x.shN n = true) : (D.lst xs).shN (n + 1) = true := by
  obtain ⟨h1, h2⟩ := shN_all h
  simp only [D.shN, D.py, PyData.canLay0, PyData.depth, Bool.and_eq_true, decide_eq_true_eq]
  exact ⟨h1, Nat.succ_le_succ h2⟩
@[simp] theorem shN_int (n : Nat) (i : Int) : (D.int i).shN n = true := by simp [D.shN, D.py, PyData.canLay0, PyData.depth]
@[simp] theorem shN_bl (n : Nat) (b : Bool) : (D.bl b).shN n = true := by simp [D.shN, D.py, PyData.canLay0, PyData.depth]
@[simp] theorem shN_non (n : Nat) : D.non.shN n = true := by simp [D.shN, D.py, PyData.canLay0, PyData.depth]
theorem shN_tI {n : Nat} (ns : List Int) (h : 1 ≤ n) : (D.tup (ns.map D.int)).shN n = true := shN_mono (shN_tup (n := 0) fun x hx => by
  obtain ⟨i, _, rfl⟩ := List.mem_map.mp hx
  exact shN_int 0 i) h
theorem eqv_tx (xs ys : List D) : (D.tup xs).eqv (.tup ys) = PyData.eqvAll (D.pys xs) (D.pys ys) := by simp only [D.eqv, D.py, PyData.eqv]
theorem eqv_lx (xs ys : List D) : (D.lst xs).eqv (.lst ys) = PyData.eqvAll (D.pys xs) (D.pys ys) := by simp only [D.eqv, D.py, PyData.eqv]
theorem eqvAll_cons (x y : D) (xs ys : List D) : PyData.eqvAll (D.pys (x :: xs)) (D.pys (y :: ys)) = (x.eqv y && PyData.eqvAll (D.pys xs) (D.pys ys)) := by simp only [D.pys, PyData.eqvAll, D.eqv]
theorem eqv_l0 (xs : List D) : (D.lst xs).eqv (.lst []) = xs.isEmpty := by cases xs <;> simp [eqv_lx, D.pys, PyData.eqvAll]
theorem eqv_t0 (xs : List D) : (D.tup xs).eqv (.tup []) = xs.isEmpty := by cases xs <;> simp [eqv_tx, D.pys, PyData.eqvAll]
theorem shp_def (d : D) : d.shp = d.shN 64 := rfl
theorem all_lay (n : Nat) : ∀ xs : List D, (PyData.canLayAll0 (D.pys xs) && decide (PyData.depthAll (D.pys xs) ≤ n)) = xs.all fun x => x.shN n
  | [] => by simp [D.pys, PyData.canLayAll0, PyData.depthAll]
  | x :: r => by
    rw [List.all_cons, ← all_lay n r]
    simp only [D.pys, PyData.canLayAll0, PyData.depthAll, D.shN]
    cases PyData.canLay0 x.py <;> cases PyData.canLayAll0 (D.pys r) <;> simp [Nat.max_le]
@[simp] theorem shN_tupS (n : Nat) (xs : List D) : (D.tup xs).shN (n + 1) = xs.all fun x => x.shN n := by
  rw [← all_lay]
  simp only [D.shN, D.py, PyData.canLay0, PyData.depth, Nat.add_le_add_iff_right]
@[simp] theorem shN_lstS (n : Nat) (xs : List D) : (D.lst xs).shN (n + 1) = xs.all fun x => x.shN n := by
  rw [← all_lay]
  simp only [D.shN, D.py, PyData.canLay0, PyData.depth, Nat.add_le_add_iff_right]
theorem shN_str (n : Nat) (x : Str) : (D.str x).shN n = PyData.strOk x := by simp [D.shN, D.py, PyData.canLay0, PyData.depth]
@[simp] theorem eqv_str (x y : Str) : (D.str x).eqv (.str y) = (x == y) := by simp [D.eqv, D.py, PyData.eqv]
@[simp] theorem eqv_bl (x y : Bool) : (D.bl x).eqv (.bl y) = (x == y) := by simp [D.eqv, D.py, PyData.eqv]
theorem eqv_tcc (x y : D) (xs ys : List D) : (D.tup (x :: xs)).eqv (.tup (y :: ys)) = (x.eqv y && (D.tup xs).eqv (.tup ys)) := by simp only [eqv_tx, eqvAll_cons]
theorem eqv_tcn (x : D) (xs : List D) : (D.tup (x :: xs)).eqv (.tup []) = false := by simp [eqv_tx, D.pys, PyData.eqvAll]
theorem eqv_tnc (x : D) (xs : List D) : (D.tup []).eqv (.tup (x :: xs)) = false := by simp [eqv_tx, D.pys, PyData.eqvAll]
@[simp] theorem eqv_tnn : (D.tup []).eqv (.tup []) = true := by simp [eqv_tx, D.pys, PyData.eqvAll]
@[simp] theorem has_nil (x : D) : x.has [] = false := rfl
theorem has_cons (x y : D) (ys : List D) : x.has (y :: ys) = (y.eqv x || x.has ys) := rfl
end
end Dn
end
section
/-! Dn18: loops and comprehensions over typed lists. -/
namespace Dn
open PySem PySem.Spec L2

/-! ### what a plan gives -/
theorem item_at {α : Type} {s : Sc} {E : Env} {zs : List α} {f : α → D} {j : Nat} {z : α} (h : s.items E = some (zs.map f)) (im : (f z).imm = true) (hz : zs[j]? = some z) : s.item zs.length E j = some (f z) := by
  unfold Sc.item
  rw [h, Option.bind_some, if_pos (List.length_map ..), List.getElem?_map, hz]
  exact if_pos im
theorem stop_at {α : Type} {s : Sc} {E : Env} {zs : List α} {f : α → D} (h : s.items E = some (zs.map f)) : s.stop zs.length E = true := by
  unfold Sc.stop
  rw [h]
  show ((zs.map f).length == zs.length) = true
  rw [List.length_map]
  exact beq_self_eq_true _
theorem iSeq_ev {α : Type} {ρ : OX} {E E0 : Env} {tk : Tk} {s : Sc} {zs : List α} {f : α → D} (hi : ρ E = some (tk, E0)) (hs : scOf tk E0 = some s) (hx : s.items E0 = some (zs.map f)) : iSeq ρ E = some (plSeq s zs.length, E0) := by
  show ((ρ E).bind fun t => (scOf t.1 t.2).bind fun s => (s.items t.2).map fun xs => (plSeq s xs.length, t.2)) = _
  rw [hi, Option.bind_some, hs, Option.bind_some, hx, Option.map_some, List.length_map]
theorem iEnum_ev {α : Type} {r : OXs} {E E0 : Env} {tk : Tk} {s : Sc} {zs : List α} {f : α → D} (hi : r E = some ([tk], E0)) (hs : scOf tk E0 = some s) (hx : s.items E0 = some (zs.map f)) : iEnum r E = some (plEnum s zs.length, E0) := by
  unfold iEnum
  rw [hi]
  show ((scOf tk E0).bind fun s => (s.items E0).map fun xs => (plEnum s xs.length, E0)) = _
  rw [hs, Option.bind_some, hx, Option.map_some, List.length_map]
theorem iZip_ev {α β : Type} {r : OXs} {E E0 : Env} {t1 t2 : Tk} {s1 s2 : Sc} {zs : List α} {f : α → D} {ws : List β} {g : β → D} (hi : r E = some ([t1, t2], E0)) (hs : scOf t1 E0 = some s1) (hx : s1.items E0 = some (zs.map f)) (hs2 : scOf t2 E0 = some s2) (hx2 : s2.items E0 = some (ws.map g)) :
    iZip r E = some (plZip s1 s2 zs.length ws.length, E0) := by
  unfold iZip
  rw [hi]
  show ((scOf t1 E0).bind fun s1 => (s1.items E0).bind fun xs => (scOf t2 E0).bind fun s2 => (s2.items E0).map fun ys => (plZip s1 s2 xs.length ys.length, E0)) = _
  rw [hs, Option.bind_some, hx, Option.bind_some, hs2, Option.bind_some, hx2, Option.map_some, List.length_map, List.length_map]
theorem iRange1_ev {r : OXs} {E E0 : Env} {tk : Tk} {n : Int} (hi : r E = some ([tk], E0)) (hr : rd tk E0 = some (.int n)) (h : fits n = true) : iRange 1 r E = some (plRng 0 n.toNat, E0) := by
  unfold iRange
  rw [hi]
  show ((rds [tk] E0).bind fun ds => if ds.length = 1 then (rngPlan ds).map fun pl => (pl, E0) else none) = _
  rw [ev_rds_cons, hr]
  show (if [D.int n].length = 1 then (rngPlan [D.int n]).map fun pl => (pl, E0) else none) = _
  rw [if_pos (show [D.int n].length = 1 from rfl)]
  show (if fits n = true then some (plRng 0 n.toNat) else none).map _ = _
  rw [if_pos h]
  rfl
theorem iRange2_ev {r : OXs} {E E0 : Env} {t1 t2 : Tk} {m n : Int} (hi : r E = some ([t1, t2], E0)) (hr : rd t1 E0 = some (.int m)) (hr2 : rd t2 E0 = some (.int n)) (h : fits m = true) (h2 : fits n = true) : iRange 2 r E = some (plRng m (n - m).toNat, E0) := by
  unfold iRange
  rw [hi]
  show ((rds [t1, t2] E0).bind fun ds => if ds.length = 2 then (rngPlan ds).map fun pl => (pl, E0) else none) = _
  rw [ev_rds_cons, hr, ev_rds_cons, hr2]
  show (if [D.int m, D.int n].length = 2 then (rngPlan [D.int m, D.int n]).map fun pl => (pl, E0) else none) = _
  rw [if_pos (show [D.int m, D.int n].length = 2 from rfl)]
  show (if (fits m && fits n) = true then some (plRng m (n - m).toNat) else none).map _ = _
  rw [h, h2]
  rfl
theorem fits_of {i : Int} (h : -1000000 ≤ i) (h2 : i ≤ 1000000) : fits i = true := decide_eq_true ⟨h, h2⟩
/-! ### for -/
/-- what one turn must do -/
abbrev Turned (P : Nat → Env → Prop) (Post : Fl → Env → Prop) (j : Nat) (f : Fl) (E : Env) : Prop := match f with
  | .nx => P (j + 1) E
  | .ct => P (j + 1) E
  | .bk => Post .nx E
  | .rt d => Post (.rt d) E
section
variable {α β : Type} {τ : TX} {b : SX} {E E0 : Env}
theorem for_seq {ρ : OX} {tk : Tk} {s : Sc} (zs : List α) (f : α → D) (hi : ρ E = some (tk, E0)) (hs : scOf tk E0 = some s) (im : ∀ z ∈ zs, (f z).imm = true) (P : Nat → Env → Prop) (Post : Fl → Env → Prop) (h0 : P 0 E0) (src : ∀ j E, P j E → s.items E = some (zs.map f))
    (step : ∀ (j : Nat) (z : α) (E : Env), zs[j]? = some z → P j E → ∃ E1 k E2, τ (f z) E = some E1 ∧ b E1 = some (k, E2) ∧ Turned P Post j k E2) (fin : ∀ E, P zs.length E → Post .nx E) : ∃ k E', sFor (iSeq ρ) τ b E = some (k, E') ∧ Post k E' := by
  refine sFor_inv (iSeq_ev hi hs (src 0 E0 h0)) P Post h0 (fun j E hj p => ?_) fun E p => ⟨stop_at (src _ E p), fin E p⟩
  have hj : j < zs.length := hj
  have hz : zs[j]? = some zs[j] := List.getElem?_eq_getElem hj
  obtain ⟨E1, k, E2, e1, e2, e3⟩ := step j _ E hz p
  exact ⟨f zs[j], E1, k, E2, item_at (src j E p) (im _ (List.getElem_mem hj)) hz, e1, e2, e3⟩
theorem for_enum {r : OXs} {tk : Tk} {s : Sc} (zs : List α) (f : α → D) (hi : r E = some ([tk], E0)) (hs : scOf tk E0 = some s) (im : ∀ z ∈ zs, (f z).imm = true) (P : Nat → Env → Prop) (Post : Fl → Env → Prop) (h0 : P 0 E0) (src : ∀ j E, P j E → s.items E = some (zs.map f))
    (step : ∀ (j : Nat) (z : α) (E : Env), zs[j]? = some z → P j E → ∃ E1 k E2, τ (.tup [.int (j : Nat), f z]) E = some E1 ∧ b E1 = some (k, E2) ∧ Turned P Post j k E2) (fin : ∀ E, P zs.length E → Post .nx E) : ∃ k E', sFor (iEnum r) τ b E = some (k, E') ∧ Post k E' := by
  refine sFor_inv (iEnum_ev hi hs (src 0 E0 h0)) P Post h0 (fun j E hj p => ?_) fun E p => ⟨stop_at (src _ E p), fin E p⟩
  have hj : j < zs.length := hj
  have hz : zs[j]? = some zs[j] := List.getElem?_eq_getElem hj
  obtain ⟨E1, k, E2, e1, e2, e3⟩ := step j _ E hz p
  exact ⟨.tup [.int (j : Nat), f zs[j]], E1, k, E2, by show (s.item zs.length E j).map _ = _; rw [item_at (src j E p) (im _ (List.getElem_mem hj)) hz]; rfl, e1, e2, e3⟩
theorem for_range1 {r : OXs} {tk : Tk} {n : Int} (hi : r E = some ([tk], E0)) (hr : rd tk E0 = some (.int n)) (h : fits n = true) (P : Nat → Env → Prop) (Post : Fl → Env → Prop) (h0 : P 0 E0)
    (step : ∀ (j : Nat) (E : Env), j < n.toNat → P j E → ∃ E1 k E2, τ (.int (j : Nat)) E = some E1 ∧ b E1 = some (k, E2) ∧ Turned P Post j k E2) (fin : ∀ E, P n.toNat E → Post .nx E) : ∃ k E', sFor (iRange 1 r) τ b E = some (k, E') ∧ Post k E' := by
  refine sFor_inv (iRange1_ev hi hr h) P Post h0 (fun j E hj p => ?_) fun E p => ⟨rfl, fin E p⟩
  obtain ⟨E1, k, E2, e1, e2, e3⟩ := step j E hj p
  exact ⟨.int (j : Nat), E1, k, E2, by show some (D.int (0 + (j : Nat))) = _; rw [Int.zero_add], e1, e2, e3⟩
theorem for_range2 {r : OXs} {t1 t2 : Tk} {m n : Int} (hi : r E = some ([t1, t2], E0)) (hr : rd t1 E0 = some (.int m)) (hr2 : rd t2 E0 = some (.int n)) (h : fits m = true) (h2 : fits n = true) (P : Nat → Env → Prop) (Post : Fl → Env → Prop) (h0 : P 0 E0)
    (step : ∀ (j : Nat) (E : Env), j < (n - m).toNat → P j E → ∃ E1 k E2, τ (.int (m + (j : Nat))) E = some E1 ∧ b E1 = some (k, E2) ∧ Turned P Post j k E2) (fin : ∀ E, P (n - m).toNat E → Post .nx E) : ∃ k E', sFor (iRange 2 r) τ b E = some (k, E') ∧ Post k E' := by
  refine sFor_inv (iRange2_ev hi hr hr2 h h2) P Post h0 (fun j E hj p => ?_) fun E p => ⟨rfl, fin E p⟩
  obtain ⟨E1, k, E2, e1, e2, e3⟩ := step j E hj p
  exact ⟨.int (m + (j : Nat)), E1, k, E2, rfl, e1, e2, e3⟩
end
/-! ### comprehensions in which nothing changes -/
/-- what an item must do -/
abbrev Gives (own : List Nat) (τ : TX) (t : BX) (x : EX) (W : Env) (d : D) (k : Bool) (y : D) : Prop := ∃ E1 E2, τ d W = some E1 ∧ t E1 = some (k, E2) ∧ (k = false → wipeE E2 own = W) ∧ (k = true → ∃ E3, x E2 = some (y, E3) ∧ wipeE E3 own = W)
section
variable {α β : Type} {own : List Nat} {τ : TX} {t : BX} {x : EX} {E E0 : Env}
theorem comp_seq {ρ : OX} {tk : Tk} {s : Sc} (zs : List α) (f : α → D) (b : α → Bool) (y : α → D) (hi : ρ E = some (tk, E0)) (hs : scOf tk E0 = some s) (hx : s.items E0 = some (zs.map f)) (hx2 : s.items (wipeE E0 own) = some (zs.map f)) (hn : zs.length ≤ 100000) (im : ∀ z ∈ zs, (f z).imm = true)
    (step : ∀ z ∈ zs, Gives own τ t x (wipeE E0 own) (f z) (b z) (y z)) : eComp (iSeq ρ) own τ t x E = some (.lst ((zs.filter b).map y), backE E0 (wipeE E0 own) own) := eComp_seq zs f b y hi hs hx hx2 hn im step
theorem comp_enum {r : OXs} {tk : Tk} {s : Sc} (zs : List α) (f : α → D) (b : Nat → α → Bool) (y : Nat → α → D) (hi : r E = some ([tk], E0)) (hs : scOf tk E0 = some s) (hx : s.items E0 = some (zs.map f)) (hx2 : s.items (wipeE E0 own) = some (zs.map f)) (hn : zs.length ≤ 100000) (im : ∀ z ∈ zs, (f z).imm = true)
    (step : ∀ (j : Nat) (z : α), zs[j]? = some z → Gives own τ t x (wipeE E0 own) (.tup [.int (j : Nat), f z]) (b j z) (y j z)) : eComp (iEnum r) own τ t x E = some (.lst ((zs.zipIdx.filter fun p => b p.2 p.1).map fun p => y p.2 p.1), backE E0 (wipeE E0 own) own) := by
  have hz : ∀ j : Nat, j < zs.length → ∃ z, zs[j]? = some z := fun j h => ⟨_, List.getElem?_eq_getElem h⟩
  have q := eComp_map (own := own) (τ := τ) (t := t) (x := x) zs.length (fun j => match zs[j]? with | some z => .tup [.int (j : Nat), f z] | none => .non) (fun j => match zs[j]? with | some z => b j z | none => false) (fun j => match zs[j]? with | some z => y j z | none => .non)
    (iEnum_ev hi hs hx) rfl hn (fun j h => by
      obtain ⟨z, e⟩ := hz j h
      show (s.item zs.length _ j).map _ = _
      rw [item_at hx2 (im z (List.mem_of_getElem? e)) e, e]
      rfl) (stop_at hx2) fun j h => by
      obtain ⟨z, e⟩ := hz j h
      simp only [e]
      exact step j z e
  rw [q]
  have hl : zs.length = zs.zipIdx.length := by rw [List.length_zipIdx]
  rw [hl, range_filter_map zs.zipIdx (fun p => b p.2 p.1) (fun p => y p.2 p.1)]
  · intro j p h
    rw [List.getElem?_zipIdx] at h
    obtain ⟨z, e, rfl⟩ := Option.map_eq_some_iff.mp h
    simp [e]
  · intro j p h _
    rw [List.getElem?_zipIdx] at h
    obtain ⟨z, e, rfl⟩ := Option.map_eq_some_iff.mp h
    simp [e]
theorem comp_zip {r : OXs} {t1 t2 : Tk} {s1 s2 : Sc} (zs : List α) (f : α → D) (ws : List β) (g : β → D) (b : α → β → Bool) (y : α → β → D) (hi : r E = some ([t1, t2], E0)) (hs : scOf t1 E0 = some s1) (hx : s1.items E0 = some (zs.map f)) (hs2 : scOf t2 E0 = some s2) (hx2 : s2.items E0 = some (ws.map g))
    (hw : s1.items (wipeE E0 own) = some (zs.map f)) (hw2 : s2.items (wipeE E0 own) = some (ws.map g)) (hn : zs.length ≤ 100000) (im : ∀ z ∈ zs, (f z).imm = true) (im2 : ∀ z ∈ ws, (g z).imm = true)
    (step : ∀ (j : Nat) (z : α) (w : β), zs[j]? = some z → ws[j]? = some w → Gives own τ t x (wipeE E0 own) (.tup [f z, g w]) (b z w) (y z w)) :
    eComp (iZip r) own τ t x E = some (.lst (((zs.zip ws).filter fun p => b p.1 p.2).map fun p => y p.1 p.2), backE E0 (wipeE E0 own) own) := by
  have hl : (zs.zip ws).length = min zs.length ws.length := List.length_zip
  have hz : ∀ j : Nat, j < min zs.length ws.length → ∃ z w, zs[j]? = some z ∧ ws[j]? = some w := fun j h => ⟨_, _, List.getElem?_eq_getElem (by omega), List.getElem?_eq_getElem (by omega)⟩
  have q := eComp_map (own := own) (τ := τ) (t := t) (x := x) (min zs.length ws.length) (fun j => match zs[j]?, ws[j]? with | some z, some w => .tup [f z, g w] | _, _ => .non) (fun j => match zs[j]?, ws[j]? with | some z, some w => b z w | _, _ => false) (fun j => match zs[j]?, ws[j]? with | some z, some w => y z w | _, _ => .non)
    (iZip_ev hi hs hx hs2 hx2) rfl (by omega) (fun j h => by
      obtain ⟨z, w, e, e2⟩ := hz j h
      show ((s1.item zs.length _ j).bind fun d => (s2.item ws.length _ j).map fun e => _) = _
      rw [item_at hw (im z (List.mem_of_getElem? e)) e, item_at hw2 (im2 w (List.mem_of_getElem? e2)) e2]
      simp [e, e2]) (by
      show (s1.stop zs.length _ && s2.stop ws.length _) = true
      rw [stop_at hw, stop_at hw2]
      rfl) fun j h => by
      obtain ⟨z, w, e, e2⟩ := hz j h
      simp only [e, e2]
      exact step j z w e e2
  rw [q, ← hl, range_filter_map (zs.zip ws) (fun p => b p.1 p.2) (fun p => y p.1 p.2)]
  · intro j p h
    rw [List.getElem?_zip_eq_some] at h
    simp [h.1, h.2]
  · intro j p h _
    rw [List.getElem?_zip_eq_some] at h
    simp [h.1, h.2]
theorem comp_range1 {r : OXs} {tk : Tk} {n : Int} (b : Nat → Bool) (y : Nat → D) (hi : r E = some ([tk], E0)) (hr : rd tk E0 = some (.int n)) (h : fits n = true) (hn : n.toNat ≤ 100000)
    (step : ∀ j : Nat, j < n.toNat → Gives own τ t x (wipeE E0 own) (.int (j : Nat)) (b j) (y j)) : eComp (iRange 1 r) own τ t x E = some (.lst (((List.range n.toNat).filter b).map y), backE E0 (wipeE E0 own) own) :=
  eComp_map n.toNat (fun j => .int (j : Nat)) b y (iRange1_ev hi hr h) rfl hn (fun j _ => by show some (D.int (0 + (j : Nat))) = _; rw [Int.zero_add]) rfl step
end
end Dn
end
section
/-! Dn19: what is to be shown of a run, from the left. -/
namespace Dn
open PySem PySem.Spec L2
/-- it ends, and then Q -/
def Wp {α : Type} (r : Option (α × Env)) (Q : α → Env → Prop) : Prop := ∃ a E, r = some (a, E) ∧ Q a E
section
variable {α β : Type} {r : Option (α × Env)} {Q Q' : α → Env → Prop} {E E1 : Env} {a : α}
theorem Wp_congr {r' : Option (α × Env)} (h : r = r') : Wp r Q = Wp r' Q := by rw [h]
@[simp] theorem Wp_some : Wp (some (a, E)) Q = Q a E := propext ⟨fun ⟨_, _, e, q⟩ => by cases e; exact q, fun q => ⟨_, _, rfl, q⟩⟩
@[simp] theorem Wp_bind {s : Option (β × Env)} {f : β × Env → Option (α × Env)} : Wp (s.bind f) Q = Wp s fun b E => Wp (f (b, E)) Q := by
  refine propext ⟨fun ⟨a, E, e, q⟩ => ?_, fun ⟨b, E, e, a, E2, e2, q⟩ => ⟨a, E2, by rw [e]; exact e2, q⟩⟩
  obtain ⟨⟨b, E1⟩, e1, e2⟩ := Option.bind_eq_some_iff.mp e
  exact ⟨b, E1, e1, a, E, e2, q⟩
@[simp] theorem Wp_bindv {s : Option β} {f : β → Option (α × Env)} {b : β} (h : s = some b) : Wp (s.bind f) Q = Wp (f b) Q := by rw [h]; rfl
@[simp] theorem Wp_map {s : Option (β × Env)} {f : β × Env → α × Env} : Wp (s.map f) Q = Wp s fun b E => Q (f (b, E)).1 (f (b, E)).2 := by
  refine propext ⟨fun ⟨a, E, e, q⟩ => ?_, fun ⟨b, E, e, q⟩ => ⟨_, _, by rw [e]; rfl, q⟩⟩
  obtain ⟨⟨b, E1⟩, e1, e2⟩ := Option.map_eq_some_iff.mp e
  exact ⟨b, E1, e1, by show Q (f (b, E1)).1 (f (b, E1)).2; rw [e2]; exact q⟩
theorem Wp.imp (h : Wp r Q) (i : ∀ a E, Q a E → Q' a E) : Wp r Q' := by
  obtain ⟨a, E, e, q⟩ := h
  exact ⟨a, E, e, i a E q⟩
theorem Wp.of {a : α} (h : r = some (a, E)) (q : Q a E) : Wp r Q := ⟨a, E, h, q⟩
end
section
variable {α β : Type} {τ : TX} {b : SX} {E E0 : Env} {Q : Fl → Env → Prop}
/-- what a turn leaves -/
def After (P : Nat → Env → Prop) (Q : Fl → Env → Prop) (j : Nat) : Fl → Env → Prop
  | .nx, E => P (j + 1) E
  | .ct, E => P (j + 1) E
  | .bk, E => Q .nx E
  | .rt d, E => Q (.rt d) E
theorem Turned.of {P : Nat → Env → Prop} {j : Nat} {f : Fl} {E : Env} (h : After P Q j f E) : Turned P Q j f E := by cases f <;> exact h
@[simp] theorem After_nx {P : Nat → Env → Prop} {j : Nat} : After P Q j .nx E = P (j + 1) E := rfl
@[simp] theorem After_ct {P : Nat → Env → Prop} {j : Nat} : After P Q j .ct E = P (j + 1) E := rfl
@[simp] theorem After_bk {P : Nat → Env → Prop} {j : Nat} : After P Q j .bk E = Q .nx E := rfl
@[simp] theorem After_rt {P : Nat → Env → Prop} {j : Nat} {d : D} : After P Q j (.rt d) E = Q (.rt d) E := rfl
theorem wp_for_seq {ρ : OX} {tk : Tk} {s : Sc} (zs : List α) (f : α → D) (P : Nat → Env → Prop) (hi : ρ E = some (tk, E0)) (hs : scOf tk E0 = some s) (im : ∀ z ∈ zs, (f z).imm = true) (h0 : P 0 E0) (src : ∀ j E, P j E → s.items E = some (zs.map f))
    (step : ∀ (j : Nat) (z : α) (E : Env), zs[j]? = some z → P j E → ∃ E1, τ (f z) E = some E1 ∧ Wp (b E1) (After P Q j)) (fin : ∀ E, P zs.length E → Q .nx E) : Wp (sFor (iSeq ρ) τ b E) Q := by
  obtain ⟨k, E', h1, h2⟩ := for_seq (τ := τ) (b := b) zs f hi hs im P Q h0 src (fun j z E hz p => by
    obtain ⟨E1, e1, k, E2, e2, q⟩ := step j z E hz p
    exact ⟨E1, k, E2, e1, e2, Turned.of q⟩) fin
  exact ⟨k, E', h1, h2⟩
theorem wp_for_enum {r : OXs} {tk : Tk} {s : Sc} (zs : List α) (f : α → D) (P : Nat → Env → Prop) (hi : r E = some ([tk], E0)) (hs : scOf tk E0 = some s) (im : ∀ z ∈ zs, (f z).imm = true) (h0 : P 0 E0) (src : ∀ j E, P j E → s.items E = some (zs.map f))
    (step : ∀ (j : Nat) (z : α) (E : Env), zs[j]? = some z → P j E → ∃ E1, τ (.tup [.int (j : Nat), f z]) E = some E1 ∧ Wp (b E1) (After P Q j)) (fin : ∀ E, P zs.length E → Q .nx E) : Wp (sFor (iEnum r) τ b E) Q := by
  obtain ⟨k, E', h1, h2⟩ := for_enum (τ := τ) (b := b) zs f hi hs im P Q h0 src (fun j z E hz p => by
    obtain ⟨E1, e1, k, E2, e2, q⟩ := step j z E hz p
    exact ⟨E1, k, E2, e1, e2, Turned.of q⟩) fin
  exact ⟨k, E', h1, h2⟩
theorem wp_for_range {r : OXs} {tk : Tk} (n : Nat) (P : Nat → Env → Prop) (hi : r E = some ([tk], E0)) (hr : rd tk E0 = some (.int (n : Nat))) (h : n ≤ 100000) (h0 : P 0 E0)
    (step : ∀ (j : Nat) (E : Env), j < n → P j E → ∃ E1, τ (.int (j : Nat)) E = some E1 ∧ Wp (b E1) (After P Q j)) (fin : ∀ E, P n E → Q .nx E) : Wp (sFor (iRange 1 r) τ b E) Q := by
  obtain ⟨k, E', h1, h2⟩ := for_range1 (τ := τ) (b := b) hi hr (fits_of (by omega) (by omega)) P Q h0 (fun j E hj p => by
    obtain ⟨E1, e1, k, E2, e2, q⟩ := step j E (by simpa using hj) p
    exact ⟨E1, k, E2, e1, e2, Turned.of q⟩) (fun E p => fin E (by simpa using p))
  exact ⟨k, E', h1, h2⟩
end
/-- zip in a for -/
theorem for_zip {α β : Type} {τ : TX} {b : SX} {E E0 : Env} {r : OXs} {t1 t2 : Tk} {s1 s2 : Sc} (zs : List α) (f : α → D) (ws : List β) (g : β → D) (hi : r E = some ([t1, t2], E0)) (hs : scOf t1 E0 = some s1) (hs2 : scOf t2 E0 = some s2) (im : ∀ z ∈ zs, (f z).imm = true) (im2 : ∀ z ∈ ws, (g z).imm = true) (P : Nat → Env → Prop) (Post : Fl → Env → Prop) (h0 : P 0 E0)
    (src : ∀ j E, P j E → s1.items E = some (zs.map f)) (src2 : ∀ j E, P j E → s2.items E = some (ws.map g))
    (step : ∀ (j : Nat) (z : α) (w : β) (E : Env), zs[j]? = some z → ws[j]? = some w → P j E → ∃ E1 k E2, τ (.tup [f z, g w]) E = some E1 ∧ b E1 = some (k, E2) ∧ Turned P Post j k E2) (fin : ∀ E, P (min zs.length ws.length) E → Post .nx E) : ∃ k E', sFor (iZip r) τ b E = some (k, E') ∧ Post k E' := by
  refine sFor_inv (iZip_ev hi hs (src 0 E0 h0) hs2 (src2 0 E0 h0)) P Post h0 (fun j E hj p => ?_) fun E p => ⟨?_, fin E p⟩
  · have hj : j < min zs.length ws.length := hj
    have hz : zs[j]? = some zs[j] := List.getElem?_eq_getElem (by omega)
    have hw : ws[j]? = some ws[j] := List.getElem?_eq_getElem (by omega)
    obtain ⟨E1, k, E2, e1, e2, e3⟩ := step j _ _ E hz hw p
    refine ⟨.tup [f zs[j], g ws[j]], E1, k, E2, ?_, e1, e2, e3⟩
    show ((s1.item zs.length E j).bind fun d => (s2.item ws.length E j).map fun e => _) = _
    rw [item_at (src j E p) (im _ (List.getElem_mem (by omega))) hz, item_at (src2 j E p) (im2 _ (List.getElem_mem (by omega))) hw]
    rfl
  · show (s1.stop zs.length E && s2.stop ws.length E) = true
    rw [stop_at (src _ E p), stop_at (src2 _ E p)]
    rfl
theorem wp_for_zip {α β : Type} {τ : TX} {b : SX} {E E0 : Env} {Q : Fl → Env → Prop} {r : OXs} {t1 t2 : Tk} {s1 s2 : Sc} (zs : List α) (f : α → D) (ws : List β) (g : β → D) (P : Nat → Env → Prop) (hi : r E = some ([t1, t2], E0)) (hs : scOf t1 E0 = some s1) (hs2 : scOf t2 E0 = some s2) (im : ∀ z ∈ zs, (f z).imm = true) (im2 : ∀ z ∈ ws, (g z).imm = true) (h0 : P 0 E0)
    (src : ∀ j E, P j E → s1.items E = some (zs.map f)) (src2 : ∀ j E, P j E → s2.items E = some (ws.map g))
    (step : ∀ (j : Nat) (z : α) (w : β) (E : Env), zs[j]? = some z → ws[j]? = some w → P j E → ∃ E1, τ (.tup [f z, g w]) E = some E1 ∧ Wp (b E1) (After P Q j)) (fin : ∀ E, P (min zs.length ws.length) E → Q .nx E) : Wp (sFor (iZip r) τ b E) Q := by
  obtain ⟨k, E', h1, h2⟩ := for_zip (τ := τ) (b := b) zs f ws g hi hs hs2 im im2 P Q h0 src src2 (fun j z w E hz hw p => by
    obtain ⟨E1, e1, k, E2, e2, q⟩ := step j z w E hz hw p
    exact ⟨E1, k, E2, e1, e2, Turned.of q⟩) fin
  exact ⟨k, E', h1, h2⟩
/-- while: a measure that falls -/
theorem wp_while {t : BX} {b : SX} {Q : Fl → Env → Prop} (P : Nat → Env → Prop)
    (step : ∀ m E, P m E → Wp (t E) fun k E1 => if k = true then Wp (b E1) (fun f E2 => match f with
      | .nx => ∃ m', m' < m ∧ P m' E2
      | .ct => ∃ m', m' < m ∧ P m' E2
      | .bk => Q .nx E2
      | .rt d => Q (.rt d) E2) else Q .nx E1) : ∀ (n m : Nat) (E : Env), m < n → P m E → Wp (sWhile t b n E) Q
  | 0, m, E, h, _ => absurd h (Nat.not_lt_zero m)
  | n + 1, m, E, h, p => by
    obtain ⟨k, E1, e1, q⟩ := step m E p
    have e : sWhile t b (n + 1) E = if k = true then (b E1).bind fun u => (match u.1 with
      | .nx => sWhile t b n u.2
      | .ct => sWhile t b n u.2
      | .bk => some (.nx, u.2)
      | .rt d => some (.rt d, u.2)) else some (.nx, E1) := by
      show ((t E).bind fun s => _) = _
      rw [e1]
      rfl
    unfold Wp
    rw [e]
    cases k with
    | false => exact ⟨.nx, E1, rfl, q⟩
    | true =>
      rw [if_pos rfl]
      rw [if_pos rfl] at q
      obtain ⟨f, E2, e2, q⟩ := q
      rw [e2]
      cases f with
      | nx =>
        obtain ⟨m', hm, p'⟩ := q
        exact wp_while P step n m' E2 (by omega) p'
      | ct =>
        obtain ⟨m', hm, p'⟩ := q
        exact wp_while P step n m' E2 (by omega) p'
      | bk => exact ⟨.nx, E2, rfl, q⟩
      | rt d => exact ⟨.rt d, E2, rfl, q⟩
/-! ### comprehensions -/
section
variable {α β : Type} {own : List Nat} {τ : TX} {t : BX} {x : EX} {E E0 : Env} {Q : D → Env → Prop}
/-- nothing changes but its own slots -/
def Same_ (own : List Nat) (W : Env) (k : Bool) (y : D) (x : EX) : Bool → Env → Prop := fun k' E => k' = k ∧ if k = true then Wp (x E) (fun y' E3 => y' = y ∧ wipeE E3 own = W) else wipeE E own = W
theorem gives_of {W : Env} {d : D} {k : Bool} {y : D} (h : ∃ E1, τ d W = some E1 ∧ Wp (t E1) (fun k' E2 => k' = k ∧ if k = true then Wp (x E2) (fun y' E3 => y' = y ∧ wipeE E3 own = W) else wipeE E2 own = W)) : Gives own τ t x W d k y := by
  obtain ⟨E1, e1, k', E2, e2, rfl, q⟩ := h
  refine ⟨E1, E2, e1, e2, fun hk => by rw [if_neg (by rw [hk]; exact Bool.false_ne_true)] at q; exact q, fun hk => ?_⟩
  rw [if_pos hk] at q
  obtain ⟨_, E3, e3, rfl, q⟩ := q
  exact ⟨E3, e3, q⟩
theorem wp_comp_seq {ρ : OX} {tk : Tk} {s : Sc} (zs : List α) (f : α → D) (b : α → Bool) (y : α → D) (hi : ρ E = some (tk, E0)) (hs : scOf tk E0 = some s) (hx : s.items E0 = some (zs.map f)) (hx2 : s.items (wipeE E0 own) = some (zs.map f)) (hn : zs.length ≤ 100000) (im : ∀ z ∈ zs, (f z).imm = true)
    (step : ∀ z ∈ zs, ∃ E1, τ (f z) (wipeE E0 own) = some E1 ∧ Wp (t E1) (fun k' E2 => k' = b z ∧ if b z = true then Wp (x E2) (fun y' E3 => y' = y z ∧ wipeE E3 own = wipeE E0 own) else wipeE E2 own = wipeE E0 own)) (q : Q (.lst ((zs.filter b).map y)) (backE E0 (wipeE E0 own) own)) : Wp (eComp (iSeq ρ) own τ t x E) Q :=
  ⟨_, _, comp_seq zs f b y hi hs hx hx2 hn im fun z hz => gives_of (step z hz), q⟩
theorem wp_comp_range {r : OXs} {tk : Tk} (n : Nat) (b : Nat → Bool) (y : Nat → D) (hi : r E = some ([tk], E0)) (hr : rd tk E0 = some (.int (n : Nat))) (hn : n ≤ 100000)
    (step : ∀ j : Nat, j < n → ∃ E1, τ (.int (j : Nat)) (wipeE E0 own) = some E1 ∧ Wp (t E1) (fun k' E2 => k' = b j ∧ if b j = true then Wp (x E2) (fun y' E3 => y' = y j ∧ wipeE E3 own = wipeE E0 own) else wipeE E2 own = wipeE E0 own)) (q : Q (.lst (((List.range n).filter b).map y)) (backE E0 (wipeE E0 own) own)) : Wp (eComp (iRange 1 r) own τ t x E) Q := by
  refine ⟨_, _, comp_range1 (n := (n : Nat)) b y hi hr (fits_of (by omega) (by omega)) (by simpa using hn) fun j hj => gives_of (step j (by simpa using hj)), ?_⟩
  simpa using q
end
end Dn
end
section
/-! Dn20: dicts whose keys are ints or texts; xs * n; pop; list(zip ..); min of tuples; a or b. -/
namespace Dn
open PySem PySem.Spec PyProof.Rows L2
/-! ### dicts -/
def keyD : D → Option Key
  | .int i => some (.inl i)
  | .str x => some (.inr x)
  | _ => none
def getK (ks : List (Key × D)) (k : Key) : Option D := (ks.find? fun kv => decide (kv.1 = k)).map (·.2)
def putD (ks : List (Key × D)) (k : Key) (d : D) : List (Key × D) :=
  if (ks.any fun kv => decide (kv.1 = k)) = true then ks.map (fun kv => if kv.1 = k then (kv.1, d) else kv) else ks ++ [(k, d)]
def mergeD (ks more : List (Key × D)) : List (Key × D) := more.foldl (fun acc kv => putD acc kv.1 kv.2) ks
section
variable {K : PySem.W.Frag} {H : Hp}
theorem keyD_rep {d : D} {v : V} {T : AS} {k : Key} (h : keyD d = some k) (r : Rep K H d v T) : v = kV k := by
  cases d <;> simp [keyD] at h
  · subst h; exact r
  · subst h; exact r
theorem getK_pos {k j : Key} {d : D} {ks : List (Key × D)} (e : j = k) : getK ((j, d) :: ks) k = some d := by simp [getK, List.find?_cons, e]
theorem getK_neg {k j : Key} {d : D} {ks : List (Key × D)} (e : ¬ j = k) : getK ((j, d) :: ks) k = getK ks k := by simp [getK, List.find?_cons, e]
theorem RepK.get {k : Key} : ∀ {ks : List (Key × D)} {xs : List (Key × V)} {T : AS}, RepK K H ks xs T → (getK ks k = none ∧ valV xs k = none) ∨ ∃ d v T1, getK ks k = some d ∧ valV xs k = some v ∧ Rep K H d v T1 ∧ Sub T1 T
  | [], xs, T, h => by
    have h : xs = [] := h
    subst h
    exact .inl ⟨rfl, rfl⟩
  | (j, d) :: ks, _, T, h => by
    obtain ⟨v, vs, T1, T2, rfl, h1, h2, s1, s2, dj⟩ := h
    by_cases e : j = k
    · exact .inr ⟨d, v, T1, getK_pos e, valV_pos e, h1, s1⟩
    · rcases RepK.get h2 with ⟨a, b⟩ | ⟨d', v', T', a, b, c, s⟩
      · exact .inl ⟨(getK_neg e).trans a, (valV_neg (p := (j, v)) e).trans b⟩
      · exact .inr ⟨d', v', T', (getK_neg e).trans a, (valV_neg (p := (j, v)) e).trans b, c, fun x z => s2 x (s x z)⟩
theorem RepK.any {k : Key} : ∀ {ks : List (Key × D)} {xs : List (Key × V)} {T : AS}, RepK K H ks xs T → (ks.any fun kv => decide (kv.1 = k)) = (xs.any fun kv => decide (kv.1 = k))
  | [], xs, T, h => by
    have h : xs = [] := h
    subst h
    rfl
  | (j, d) :: ks, _, T, h => by
    obtain ⟨v, vs, T1, T2, rfl, h1, h2, s1, s2, dj⟩ := h
    rw [List.any_cons, List.any_cons, RepK.any h2]
theorem RepK.len : ∀ {ks : List (Key × D)} {xs : List (Key × V)} {T : AS}, RepK K H ks xs T → xs.length = ks.length
  | [], xs, T, h => by
    have h : xs = [] := h
    subst h
    rfl
  | (j, d) :: ks, _, T, h => by
    obtain ⟨v, vs, T1, T2, rfl, h1, h2, s1, s2, dj⟩ := h
    rw [List.length_cons, List.length_cons, RepK.len h2]
theorem RepK.snoc {k : Key} {d : D} {v : V} (z : Rep K H d v no) : ∀ {ks : List (Key × D)} {xs : List (Key × V)} {T : AS}, RepK K H ks xs T → RepK K H (ks ++ [(k, d)]) (xs ++ [(k, v)]) T
  | [], xs, T, h => by
    have h : xs = [] := h
    subst h
    exact ⟨v, [], no, no, rfl, z, rfl, no_sub, no_sub, Disj.no_l⟩
  | (j, d') :: ks, _, T, h => by
    obtain ⟨v', vs, T1, T2, rfl, h1, h2, s1, s2, dj⟩ := h
    exact ⟨v', _, T1, T2, rfl, h1, RepK.snoc z h2, s1, s2, dj⟩
theorem RepK.map {k : Key} {d : D} {v : V} (z : Rep K H d v no) : ∀ {ks : List (Key × D)} {xs : List (Key × V)} {T : AS}, RepK K H ks xs T →
    RepK K H (ks.map fun kv => if kv.1 = k then (kv.1, d) else kv) (xs.map fun kv => if kv.1 = k then (kv.1, v) else kv) T
  | [], xs, T, h => by
    have h : xs = [] := h
    subst h
    rfl
  | (j, d') :: ks, _, T, h => by
    obtain ⟨v', vs, T1, T2, rfl, h1, h2, s1, s2, dj⟩ := h
    have ih := RepK.map (k := k) z h2
    by_cases e : j = k
    · rw [List.map_cons, List.map_cons, if_pos e, if_pos e]
      exact ⟨v, _, no, T2, rfl, z, ih, no_sub, s2, Disj.no_l⟩
    · rw [List.map_cons, List.map_cons, if_neg e, if_neg e]
      exact ⟨v', _, T1, T2, rfl, h1, ih, s1, s2, dj⟩
theorem RepK.put {k : Key} {d : D} {v : V} {ks : List (Key × D)} {xs : List (Key × V)} {T : AS} (h : RepK K H ks xs T) (z : Rep K H d v no) : RepK K H (putD ks k d) (putK xs k v) T := by
  unfold putD putK
  rw [RepK.any h]
  split
  · exact RepK.map z h
  · exact RepK.snoc z h
end
/-! #### y in d -/
def dInD (x c : D) : Option D := match c with
  | .dcK ks => (keyD x).map fun k => .bl (getK ks k).isSome
  | _ => none
def dNotInD (x c : D) : Option D := match c with
  | .dcK ks => (keyD x).map fun k => .bl (!(getK ks k).isSome)
  | _ => none
def rDin (neg : Bool) : R2 := fun y x H Q => ∃ a o, x = .ref a ∧ DGet H a y o ∧ Q (.bl (if neg = true then !o.isSome else o.isSome)) H
theorem op_dIn {X : Cx} (hu : X.A.units + 1 < cLine) : OpR X (compareOp .In) (rDin false) := by
  intro pins s σ H y x u v Q I ry rx h
  obtain ⟨a, o, rfl, g, q⟩ := h
  cases rx
  exact d_in hu I g ry fun s3 I3 => ⟨.bl o.isSome, H, I3, rfl, q⟩
theorem op_dNotIn {X : Cx} (hu : X.A.units + 1 < cLine) : OpR X (compareOp .NotIn) (rDin true) := by
  intro pins s σ H y x u v Q I ry rx h
  obtain ⟨a, o, rfl, g, q⟩ := h
  cases rx
  exact d_notIn hu I g ry fun s3 I3 => ⟨.bl (!o.isSome), H, I3, rfl, q⟩
section
variable {K : PySem.W.Frag} {H : Hp}
theorem RepK.some_eq {k : Key} {ks : List (Key × D)} {xs : List (Key × V)} {T : AS} (h : RepK K H ks xs T) : (valV xs k).isSome = (getK ks k).isSome := by
  rcases RepK.get (k := k) h with ⟨a, b⟩ | ⟨d', v', T', a, b, _⟩ <;> rw [a, b] <;> rfl
theorem opd_dIn : OpD K (rDin false) dInD := by
  intro H d1 v1 T1 d2 v2 T2 d Q r1 r2 e f
  unfold dInD at e
  split at e
  · rename_i ks
    obtain ⟨k, hk, rfl⟩ := Option.map_eq_some_iff.mp e
    obtain ⟨a, xs, T0, rfl, q, _, _, _, l⟩ := r2
    refine ⟨a, valV xs k, rfl, by rw [keyD_rep hk r1]; exact DGet.k q, f.scal ?_⟩
    show V.bl _ = V.bl _
    rw [l.some_eq]
    rfl
  · cases e
theorem opd_dNotIn : OpD K (rDin true) dNotInD := by
  intro H d1 v1 T1 d2 v2 T2 d Q r1 r2 e f
  unfold dNotInD at e
  split at e
  · rename_i ks
    obtain ⟨k, hk, rfl⟩ := Option.map_eq_some_iff.mp e
    obtain ⟨a, xs, T0, rfl, q, _, _, _, l⟩ := r2
    refine ⟨a, valV xs k, rfl, by rw [keyD_rep hk r1]; exact DGet.k q, f.scal ?_⟩
    show V.bl _ = V.bl _
    rw [l.some_eq]
    rfl
  · cases e
end
/-- y in c: c a list, a tuple, a dict -/
def inD2 (x c : D) : Option D := match c with
  | .dcK ks => (keyD x).map fun k => .bl (getK ks k).isSome
  | c => inD x c
def notInD2 (x c : D) : Option D := match c with
  | .dcK ks => (keyD x).map fun k => .bl (!(getK ks k).isSome)
  | c => notInD x c
abbrev rIn2 (K : PySem.W.Frag) : R2 := fun x y H Q => rDin false x y H Q ∨ (rInD K x y H Q ∨ rInT K false x y H Q)
theorem op_in2 {X : Cx} (hu : X.A.units + 65 < cLine) : OpR X (compareOp .In) (rIn2 X.K) := (op_dIn (by omega)).or (op_inX hu)
theorem opd_in2 {K : PySem.W.Frag} : OpD K (rIn2 K) inD2 := (opd_dIn.or opd_in).to fun x y d h => by
  cases y <;> first
    | exact h
    | (show ((keyD x).map _).orElse _ = _
       have h : ((keyD x).map _) = some d := h
       rw [h]; rfl)
abbrev rNotIn2 (K : PySem.W.Frag) : R2 := fun x y H Q => rDin true x y H Q ∨ (rNotInD K x y H Q ∨ rInT K true x y H Q)
theorem op_notIn2 {X : Cx} (hu : X.A.units + 65 < cLine) : OpR X (compareOp .NotIn) (rNotIn2 X.K) := (op_dNotIn (by omega)).or (op_notInX hu)
theorem opd_notIn2 {K : PySem.W.Frag} : OpD K (rNotIn2 K) notInD2 := (opd_dNotIn.or opd_notIn).to fun x y d h => by
  cases y <;> first
    | exact h
    | (show ((keyD x).map _).orElse _ = _
       have h : ((keyD x).map _) = some d := h
       rw [h]; rfl)
/-! #### d[k] -/
def dGetD (x y : D) : Option D := match x with
  | .dcK ks => (keyD y).bind fun k => (getK ks k).bind fun d => if d.imm = true then some d else none
  | _ => none
def rDgt : R2 := fun x y H Q => ∃ a v, x = .ref a ∧ DGet H a y (some v) ∧ Q v H
theorem ix_dict {X : Cx} (hu : X.A.units + 1 < cLine) : IxR X rDgt := by
  intro value slice pins s σ H x y v u Q I rx ry h hs
  obtain ⟨a, w, rfl, g, q⟩ := h
  cases rx
  have hT := dict_typeIs I g
  unfold subscriptTail
  refine wpAny_bind ?_
  rw [getitemInPython_of_ne hT.not_modules]
  refine wpAny_bind (wpAny_specialOf hT PySem.F.slot_dict_getitem.lookup ?_)
  have fin : wpAny (model X.prog X.w) X.A (subscripted slice false (.ref a) u) (fun r s₃ => wpAny (model X.prog X.w) X.A (letTemporaryGo value (.ref a) r >>= fun _ => pure r) (EP X pins σ Q) X.xe s₃) X.xe s := by
    rw [hs]
    exact wpAny_operating (d_getItem hu I g ry fun w' s3 I3 rw' => wpAny_bind (wpAny_letTemporaryGo (wpAny_pure ⟨w, H, I3, rw', q⟩)))
  first
    | exact wpAny_pure (wpAny_bind fin)
    | exact wpAny_bind (wpAny_pure (wpAny_bind fin))
    | exact wpAny_bind fin

theorem opd_dgt {K : PySem.W.Frag} : OpD K rDgt dGetD := by
  intro H d1 v1 T1 d2 v2 T2 d Q r1 r2 e f
  unfold dGetD at e
  split at e
  · rename_i ks
    simp only [Option.bind_eq_some_iff] at e
    obtain ⟨k, hk, d', hd, e⟩ := e
    split at e
    · rename_i im
      cases e
      obtain ⟨a, xs, T0, rfl, q, _, _, _, l⟩ := r1
      rcases RepK.get (k := k) l with ⟨z, _⟩ | ⟨d', v', T', z, b, c, _⟩
      · rw [z] at hd; cases hd
      · rw [hd] at z
        cases z
        refine ⟨a, v', rfl, by rw [keyD_rep hk r2, ← b]; exact DGet.k q, f.scal (c.imm im)⟩
    · cases e
  · cases e
theorem IxR.or2 {X : Cx} {r r' : R2} (h : IxR X r) (h' : IxR X r') : IxR X (fun x y H Q => r x y H Q ∨ r' x y H Q) := fun value slice pins s σ H x y v u Q I rx ry w hs => w.elim (fun w => h value slice pins s σ H x y v u Q I rx ry w hs) fun w => h' value slice pins s σ H x y v u Q I rx ry w hs
/-- x[y]: x a list, a tuple, a text, a dict -/
def ixD2 (x y : D) : Option D := match x with
  | .dcK ks => (keyD y).bind fun k => (getK ks k).bind fun d => if d.imm = true then some d else none
  | x => ixD x y
abbrev rIx2 (K : PySem.W.Frag) : R2 := fun x y H Q => rDgt x y H Q ∨ rIx K x y H Q
theorem ix_2 {X : Cx} (hu : X.A.units + 65 < cLine) : IxR X (rIx2 X.K) := IxR.or2 (ix_dict (X := X) (by omega)) ix_seq
theorem opd_ix2 {K : PySem.W.Frag} : OpD K (rIx2 K) ixD2 := (opd_dgt.or opd_ix).to fun x y d h => by
  cases x <;> first
    | exact h
    | (show ((keyD y).bind _).orElse _ = _
       have h : ((keyD y).bind _) = some d := h
       rw [h]; rfl)
/-! #### d.get(k) -/
def getD2 (c : D) (ds : List D) : Option D := match c, ds with
  | .dcK ks, [y] => (keyD y).bind fun k => match getK ks k with
    | some d => if d.imm = true then some d else none
    | none => some .non
  | _, _ => none
def rDget1 : V → List V → Hp → VK → Prop := fun x xs H Q => ∃ a y o, x = .ref a ∧ xs = [y] ∧ DGet H a y o ∧ Q (o.getD .non) H
theorem mt_dget {X : Cx} (hu : X.A.units + 1 < cLine) : MtR X "dict.get" rDget1 := by
  intro pins s σ H x xs v us Q I rx rxs h
  obtain ⟨a, y, o, rfl, rfl, g, q⟩ := h
  cases rx
  obtain ⟨uy, rfl, ry⟩ := vals1 rxs
  exact d_get1 hu I g ry fun w' s3 I3 rw' => ⟨_, H, I3, rw', q⟩
theorem med_dget {K : PySem.W.Frag} : MeD K rDget1 getD2 := by
  intro H d0 v0 T0 ds vs d Q r0 r e f
  unfold getD2 at e
  split at e
  · rename_i ks y
    simp only [Option.bind_eq_some_iff] at e
    obtain ⟨k, hk, e⟩ := e
    obtain ⟨a, xs, T1, rfl, q, _, _, _, l⟩ := r0
    obtain ⟨w, T, rfl, h⟩ := repB_one r
    refine ⟨a, w, valV xs k, rfl, rfl, by rw [keyD_rep hk h]; exact DGet.k q, ?_⟩
    rcases RepK.get (k := k) l with ⟨z, b⟩ | ⟨d', v', T', z, b, c, _⟩
    · rw [z] at e
      cases e
      rw [b]
      exact f.scal rfl
    · rw [z] at e
      have e : (if d'.imm = true then some d' else none) = some d := e
      split at e
      · rename_i im
        cases e
        rw [b]
        exact f.scal (c.imm im)
      · cases e
  · cases e
theorem ty_dict {K : PySem.W.Frag} {H : Hp} {d : D} {v : V} {T : AS} (h : Rep K H d v T) (t : d.ty = "dict") : tyV K "dict" v H := by
  cases d <;> simp [D.ty] at t
  · obtain ⟨a, xs, _, rfl, q, _⟩ := h
    exact .inr (.inr (.inl ⟨rfl, .inl ⟨_, q⟩⟩))
  · obtain ⟨a, xs, _, rfl, q, _⟩ := h
    exact .inr (.inr (.inl ⟨rfl, .inr ⟨_, q⟩⟩))
section
variable {X : Cx} {p q : Bool} {o e : Expr} {es : List Expr} {name : Str} {apos cpos : Pos} {id : String} {r : V → List V → Hp → VK → Prop} {f : D → List D → Option D} {x : OX} {ρ : OXs}
theorem de_md (slot : Slot "dict" name id) (hty : typeOf (.builtin id) = pure (.type "method_descriptor")) (hm : MtR X id r) (hd : MeD X.K r f) (ho : DO X p o x) (ha : DOs X q (e :: es) ρ)
    (hbase : attributeBase o name X.env (eval o X.env) = eval o X.env := by rfl)
    (hfew : ((backTo cpos (starEach (e :: es) X.env)).all (fun x => !x.1) && (backToKw cpos (keywordEach [] X.env)).all (fun x => x.1.isSome)
      && decide ((e :: es).length + ([] : List Keyword).length + (if ([] : List Keyword).isEmpty then 0 else 1) < 30)) = true := by rfl)
    (hline : (apos.endLine == cpos.line) = true := by rfl) (hs : starEach (e :: es) X.env = (false, eval e X.env) :: starEach es X.env := by rfl) (hplain : (backTo cpos (starEach es X.env)).any (·.1) = false := by rfl) :
    DE X (p && q) (.Call (.Attribute o name apos) (e :: es) [] cpos) (eMeth "dict" f x ρ) := by
  refine PE.imp (pe_bm PySem.F.plainAttrs_dict slot hty hm ho ha hbase hfew hline hs hplain) fun σ H Q w => ?_
  obtain ⟨E, S, tk, E', r0, e1, w⟩ := meth_ok hd w
  exact ⟨E, S, tk, E', r0, e1, fun v H1 S1 T s1 k o m => by
    obtain ⟨⟨d0, T0, ht, z⟩, w⟩ := w v H1 S1 T s1 k o m
    exact ⟨ty_dict z ht, w⟩⟩
end
/-! #### {} -/
def eDc0 : EX := fun E => some (.dcK [], E)
theorem de_dict0 {X : Cx} {pos : Pos} : DE X true (.Dict [] [] pos) eDc0 := by
  refine PE.imp pe_dnewK fun σ H Q w => ?_
  obtain ⟨E, S, d, E', r0, w1, w⟩ := w
  cases w1
  intro p hp
  exact fin_of w (Stp.refl r0) (fun _ => Same.refl H) (.ref p) (upd H p (.dK [])) (fun x => x = p) ⟨p, [], no, rfl, upd_same, rfl, fun h => h, no_sub, rfl⟩ (Same.upd hp) (fun a h => by rw [h]; exact hp) fun a h => by rw [h, upd_same]; exact ⟨_, rfl, rfl⟩
/-! #### d[k] = v -/
def isDc (i : Nat) (E : Env) : Bool := match E[i]? with
  | some (some (.dcK _)) => true
  | _ => false
/-- x[y] = .., x the dict in the slot i -/
def gSetD (i : Nat) (y : EX) : TX := fun d E => if isDc i E = true then (y E).bind fun s => match s.2[i]? with
  | some (some (.dcK ks)) => if ks.length < 100000 ∧ d.imm = true then (keyD s.1).map fun k => s.2.set i (some (.dcK (putD ks k d))) else none
  | _ => none else none
def rSetD : V → V → V → Hp → (Hp → Prop) → Prop := fun o i v H Q => ∃ a H', o = .ref a ∧ DPut H a i v H' ∧ Q H'
theorem set_dict {X : Cx} (hu : X.A.units + 1 < cLine) : PSet X rSetD := by
  intro pins s σ H o i v ov iv u Q I ro ri rv h
  obtain ⟨a, H', rfl, g, q⟩ := h
  cases ro
  exact d_setItem hu I g ri rv fun s4 I4 => ⟨H', I4, q⟩
theorem PSet.or {X : Cx} {t t' : TSet} (h : PSet X t) (h' : PSet X t') : PSet X (fun o i v H Q => t o i v H Q ∨ t' o i v H Q) := fun pins s σ H o i v ov iv u Q I ro ri rv w => w.elim (h pins s σ H o i v ov iv u Q I ro ri rv) (h' pins s σ H o i v ov iv u Q I ro ri rv)
section
variable {X : Cx} {pos : Pos} {pin : Nat → Bool} {o e : Expr} {i : Nat} {p : Bool}
theorem slot_dict {σ : L2.St} {H : Hp} {E : Env} {S : Nat → AS} {i : Nat} {ks : List (Key × D)} (r : RepE X.K H E σ S) (e : E[i]? = some (some (.dcK ks))) : ∃ a vs T0, σ[i]? = some (some (.ref a)) ∧ H a = some (.dK vs) ∧ S i a ∧ ¬ T0 a ∧ Sub T0 (S i) ∧ RepK X.K H ks vs T0 := by
  obtain ⟨v, h1, h2⟩ := r.at_ i _ e
  obtain ⟨a, vs, T0, rfl, q, h⟩ := h2
  exact ⟨a, vs, T0, h1, q, h⟩
theorem dg_setD {y : EX} (hu : X.A.units + 1 < cLine) (ho : PE X o (tVar i)) (he : DE X p e y)
    (ha : ∀ v, assign (.Subscript o e pos) X.env v = (do
      let ov ← holding [v] (eval o X.env)
      let iv ← holding [v, ov] (eval e X.env)
      standAt pos
      holding [v, ov, iv] (setItem ov iv v)
      release [v, ov, iv] []) := by intro _; rfl) : DG X pin (.Subscript o e pos) (gSetD i y) := by
  refine PG.imp (pg_sub ho he (set_dict hu) ha) fun v σ H Q w => ?_
  obtain ⟨E, S, d, T, E', r, z, dj, m, e1, w⟩ := w
  unfold gSetD at e1
  split at e1
  case isFalse => cases e1
  rename_i hi
  simp only [Option.bind_eq_some_iff] at e1
  obtain ⟨⟨d1, E1⟩, e1, e2⟩ := e1
  split at e2
  case h_2 => cases e2
  rename_i ks ex
  split at e2
  case isFalse => cases e2
  rename_i hc
  obtain ⟨k, hk, ee⟩ := Option.map_eq_some_iff.mp e2
  subst ee
  unfold isDc at hi
  split at hi
  case h_2 => cases hi
  rename_i ks0 ex0
  obtain ⟨a, vs0, _, hv, _⟩ := slot_dict r ex0
  refine ⟨.ref a, hv, E, S, d1, E1, r, e1, fun u H1 S1 T1 s1 k1 o1 _ => ?_⟩
  obtain ⟨a', vs, T0, hv', hH, haS, nT, sT, l⟩ := slot_dict s1.env ex
  rw [hv] at hv'
  cases hv'
  have z1 : Rep X.K H1 d v no := (z.imm hc.2).frm (T := no) s1.frm r.mu Disj.no_l
  have l1 := l.put (k := k) z1
  have ma : Mu H1 (fun b => b = a) := fun b q => by
    have q : b = a := q
    rw [q]; exact s1.env.mu a ⟨i, haS⟩
  have l2 := l1.frm (S := fun b => b = a) (H' := upd H1 a (.dK (putK vs k v))) (Frm.upd rfl) ma fun b q q2 => by
    have q2 : b = a := q2
    rw [q2] at q
    exact nT q
  have s2 : Stp X.K σ (un (tot S) T) H E1 S1 H1 := ⟨s1.env, s1.frm.mono fun b q => .inl q, fun b q => (s1.new b q).elim (fun q => .inl (.inl q)) .inr⟩
  have o2 : Ow (un (tot S) T) H S1 H1 no := Ow.no
  have R : Rep X.K (upd H1 a (.dK (putK vs k v))) (.dcK (putD ks k d)) (.ref a) (S1 i) := ⟨a, _, T0, rfl, upd_same, haS, nT, sT, l2⟩
  have M := mut_ok s2 o2 hv (Frm.upd haS) R (fun b h => .inl h) (Mu.upd (s1.env.mui i) rfl)
  refine ⟨a, _, rfl, ?_, w σ _ _ M.env M.frm M.new PinEq.refl⟩
  rw [keyD_rep hk k1]
  exact DPut.k hH (by rw [l.len]; exact Nat.lt_of_lt_of_le hc.1 (line5 (Nat.le_refl _)))
end
end Dn
end
section
/-! Dn22: list(zip(a, b)), a and b lists or tuples. -/
namespace Dn
open PySem PySem.Spec PyProof.Rows L2
theorem zip_no_len : typeLookup (.type "zip") "__len__" = pure none := by rw [typeLookup_type, builtinLookup_eq_fast]; kernel_rfl
theorem zip_no_hint : typeLookup (.type "zip") "__length_hint__" = pure none := by rw [typeLookup_type, builtinLookup_eq_fast]; kernel_rfl
section
variable {prog : Program} {w : World} {A : Around} {E : Value → Shared → Prop} {s : Shared} {z TI TO T i1 i2 : Addr} {fp1 fp2 : List Addr} {n1 n2 i : Nat} {P1 P2 : Nat → Value → Prop} {St1 St2 : Nat → Heap → Prop} {f : Bool} {oT : Obj}
theorem zipH_next {Q : Value → Shared → Prop} (S : ZipSep2 z TI TO i1 i2 fp1 fp2) (D1 : Draws prog w A i1 fp1 n1 P1 St1) (D2 : Draws prog w A i2 fp2 n2 P2 St2)
    (hz : IsZipHeld s.heap z TI TO T f) (hT : s.heap.get? T = some oT) (hTI : IsTupOf2 s.heap TI (.ref i1) (.ref i2)) (st1 : St1 i s.heap) (st2 : St2 i s.heap) (hlt1 : i < n1) (hlt2 : i < n2)
    (hQ : ∀ x1 x2 h' tk, P1 i x1 → P2 i x2 → IsZipHeld h' z TI TO T true → St1 (i + 1) h' → St2 (i + 1) h' → IsTupOf2 h' s.heap.objs.size x1 x2 → h'.objs.size = s.heap.objs.size + 1 →
      (∀ c o, c ≠ z → c ≠ i1 → c ≠ i2 → s.heap.get? c = some o → h'.get? c = some o) → Q (.ref s.heap.objs.size) { s with heap := h', toks := tk }) :
    wpAny (model prog w) A (Builtin.«zip.__next__» ⟨[.ref z], []⟩) (fun fin s' => ∃ v, fin = .done (.ret v) ∧ Q v s') E s := by
  obtain ⟨hp, g, d, tk0, os⟩ := s
  show wpAny _ _ (field (.ref z) 2 >>= _) _ _ _
  refine wpAny_bind (wpAny_field hz rfl (x := .bool false) rfl ?_)
  show wpAny _ _ (field (.ref z) 3 >>= _) _ _ _
  refine wpAny_bind (wpAny_field hz rfl (x := .ref TI) rfl ?_)
  refine wpAny_bind (wpAny_seqItems hTI rfl ?_)
  show wpAny _ _ (Builtin.SmallTypes.ownedTupleIsFree (.ref z) >>= _) _ _ _
  refine wpAny_bind (wpAny_tupleHeld_zip hz hT fun g0 hz0 hs0 => ?_)
  replace hs0 : Heap.SameBut z hp g0 := hs0
  simp only [Bool.false_eq_true, if_false]
  refine wpAny_bind ?_
  rw [← Array.forIn_toList]
  simp only [List.forIn_cons, List.forIn_nil]
  refine wpAny_bind (wpAny_bind (wpAny_holding ?_))
  show wpAny _ _ (Builtin.SmallTypes.nextOf (.ref i1) >>= _) _ _ ⟨g0, g, d, tk0, os⟩
  refine wpAny_bind (D1.item i _ _ _ hlt1 (D1.over st1 hs0 S.zf1) fun x1 p1 tk1 hx1 sn1 hp1 => wpAny_pure ?_)
  replace hp1 : Heap.SameBut i1 g0 p1 := hp1
  refine wpAny_pure ?_
  refine wpAny_bind (wpAny_bind (wpAny_holding ?_))
  show wpAny _ _ (Builtin.SmallTypes.nextOf (.ref i2) >>= _) _ _ ⟨p1, g, d, tk1, os⟩
  refine wpAny_bind (D2.item i _ _ _ hlt2 (D2.over (D2.over st2 hs0 S.zf2) hp1 S.sep1_2) fun x2 p2 tk2 hx2 sn2 hp2 => wpAny_pure ?_)
  replace hp2 : Heap.SameBut i2 p1 p2 := hp2
  refine wpAny_pure (wpAny_pure ?_)
  show wpAny _ _ (newTuple [x1, x2] >>= _) _ _ ⟨p2, g, d, tk2, os⟩
  refine wpAny_bind (wpAny_newTuple ?_)
  have hsz : p2.objs.size = hp.objs.size := by rw [hp2.1, hp1.1, hs0.1]
  have hz3 : IsZipHeld p2 z TI TO T true := hp2.extBut _ _ S.zi2 (hp1.extBut _ _ S.zi1 hz0)
  have hk : ∀ c o, c ≠ z → c ≠ i1 → c ≠ i2 → hp.get? c = some o → p2.get? c = some o := fun c o c1 c2 c3 e => hp2.extBut _ _ c3 (hp1.extBut _ _ c2 (hs0.extBut _ _ c1 e))
  have hj1 : St1 (i + 1) p2 := D1.over sn1 hp2 S.sep2_1
  refine wpAny_pure ⟨_, rfl, ?_⟩
  show Q (.ref p2.objs.size) _
  have hpp : IsTupOf2 (p2.push { cls := .type "tuple", data := .seq #[x1, x2] }) p2.objs.size x1 x2 := Heap.get?_push_size _ rfl
  have hz4 : (p2.push { cls := .type "tuple", data := .seq #[x1, x2] }).objs.size = p2.objs.size + 1 := Heap.size_push ..
  rw [hsz] at hpp hz4 ⊢
  exact hQ x1 x2 _ tk2 hx1 hx2 (Heap.get?_push_of_some _ hz3) (D1.frame _ _ _ hj1 fun b _ o e => Heap.get?_push_of_some _ e) (D2.frame _ _ _ sn2 fun b _ o e => Heap.get?_push_of_some _ e) hpp hz4 fun c o c1 c2 c3 e => Heap.get?_push_of_some _ (hk c o c1 c2 c3 e)
theorem zipH_end {Q : PySem.Fin → Shared → Prop} (S : ZipSep2 z TI TO i1 i2 fp1 fp2) (D1 : Draws prog w A i1 fp1 n1 P1 St1) (D2 : Draws prog w A i2 fp2 n2 P2 St2)
    (hz : IsZipHeld s.heap z TI TO T f) (hT : s.heap.get? T = some oT) (hTI : IsTupOf2 s.heap TI (.ref i1) (.ref i2)) (st1 : St1 i s.heap) (st2 : St2 i s.heap) (hle1 : i ≤ n1) (hle2 : i ≤ n2) (hend : i = n1 ∨ i = n2)
    (hE : ∀ h' tk e, (∀ c o, c ≠ z → c ≠ i1 → c ≠ i2 → s.heap.get? c = some o → h'.get? c = some o) → (∃ o, h'.get? e = some o ∧ o.cls = .type "StopIteration") → E (.ref e) { s with heap := h', toks := tk }) :
    wpAny (model prog w) A (Builtin.«zip.__next__» ⟨[.ref z], []⟩) Q E s := by
  obtain ⟨hp, g, d, tk0, os⟩ := s
  show wpAny _ _ (field (.ref z) 2 >>= _) _ _ _
  refine wpAny_bind (wpAny_field hz rfl (x := .bool false) rfl ?_)
  show wpAny _ _ (field (.ref z) 3 >>= _) _ _ _
  refine wpAny_bind (wpAny_field hz rfl (x := .ref TI) rfl ?_)
  refine wpAny_bind (wpAny_seqItems hTI rfl ?_)
  show wpAny _ _ (Builtin.SmallTypes.ownedTupleIsFree (.ref z) >>= _) _ _ _
  refine wpAny_bind (wpAny_tupleHeld_zip hz hT fun g0 hz0 hs0 => ?_)
  replace hs0 : Heap.SameBut z hp g0 := hs0
  simp only [Bool.false_eq_true, if_false]
  refine wpAny_bind ?_
  rw [← Array.forIn_toList]
  simp only [List.forIn_cons, List.forIn_nil]
  refine wpAny_bind (wpAny_bind (wpAny_holding ?_))
  show wpAny _ _ (Builtin.SmallTypes.nextOf (.ref i1) >>= _) _ _ ⟨g0, g, d, tk0, os⟩
  by_cases hlt1 : i < n1
  · refine wpAny_bind (D1.item i _ _ _ hlt1 (D1.over st1 hs0 S.zf1) fun x1 p1 tk1 hx1 sn1 hp1 => wpAny_pure ?_)
    replace hp1 : Heap.SameBut i1 g0 p1 := hp1
    have hi2 : i = n2 := by omega
    refine wpAny_pure ?_
    refine wpAny_bind (wpAny_bind (wpAny_holding ?_))
    show wpAny _ _ (Builtin.SmallTypes.nextOf (.ref i2) >>= _) _ _ ⟨p1, g, d, tk1, os⟩
    refine wpAny_bind (D2.done ⟨p1, g, d, tk1, os⟩ _ _ (by rw [← hi2]; exact (D2.over (D2.over st2 hs0 S.zf2) hp1 S.sep1_2)) fun q e hq he => ?_)
    replace hq : Heap.ExtBut i2 p1 q := hq
    exact hE q tk1 e (fun c o cz c1 c2 x => hq _ _ c2 (hp1.extBut _ _ c1 (hs0.extBut _ _ cz x))) he
  · have hi1 : i = n1 := by omega
    refine wpAny_bind (D1.done ⟨g0, g, d, tk0, os⟩ _ _ (by rw [← hi1]; exact (D1.over st1 hs0 S.zf1)) fun q e hq he => ?_)
    replace hq : Heap.ExtBut i1 g0 q := hq
    exact hE q tk0 e (fun c o cz c1 c2 x => hq _ _ c1 (hs0.extBut _ _ cz x)) he
end
section
variable {prog : Program} {w : World} {A : Around} {E : Value → Shared → Prop} {s : Shared} {z TI TO T i1 i2 : Addr} {fp1 fp2 : List Addr} {n1 n2 i : Nat} {P1 P2 : Nat → Value → Prop} {St1 St2 : Nat → Heap → Prop}
/-- the zip as it stands between two asks: no tuple given out yet, or one that is still there -/
def ZOwn (h : Heap) (z TI TO i1 i2 : Addr) : Prop := (∃ x y, IsTupOf2 h TO x y) ∧ (IsZip h z TI TO .none ∨ ∃ T f oT, IsZipHeld h z TI TO T f ∧ h.get? T = some oT ∧ T ≠ z ∧ T ≠ i1 ∧ T ≠ i2)
theorem ZOwn.keep {h h' : Heap} {S : Addr} (g : ZOwn h z TI TO i1 i2) (k : ∀ q o, q ≠ S → h.get? q = some o → h'.get? q = some o) (k2 : ∀ o, h.get? S = some o → ∃ o', h'.get? S = some o') (hz : z ≠ S) (hTO : TO ≠ S) : ZOwn h' z TI TO i1 i2 := by
  obtain ⟨⟨x, y, hO⟩, g⟩ := g
  refine ⟨⟨x, y, k TO _ hTO hO⟩, ?_⟩
  rcases g with h | ⟨T, f, oT, h, h2, h3⟩
  · exact .inl (k z _ hz h)
  · by_cases c : T = S
    · subst c
      obtain ⟨o', e⟩ := k2 oT h2
      exact .inr ⟨T, f, o', k z _ hz h, e, h3⟩
    · exact .inr ⟨T, f, oT, k z _ hz h, k T _ c h2, h3⟩
theorem next_item {Q : Option Value → Shared → Prop} (S : ZipSep2 z TI TO i1 i2 fp1 fp2) (D1 : Draws prog w A.in1 i1 fp1 n1 P1 St1) (D2 : Draws prog w A.in1 i2 fp2 n2 P2 St2)
    (hz : ZOwn s.heap z TI TO i1 i2) (hTI : IsTupOf2 s.heap TI (.ref i1) (.ref i2)) (st1 : St1 i s.heap) (st2 : St2 i s.heap) (hlt1 : i < n1) (hlt2 : i < n2)
    (hQ : ∀ x1 x2 h' tk, P1 i x1 → P2 i x2 → ZOwn h' z TI TO i1 i2 → St1 (i + 1) h' → St2 (i + 1) h' → IsTupOf2 h' s.heap.objs.size x1 x2 → h'.objs.size = s.heap.objs.size + 1 →
      (∀ c o, c ≠ z → c ≠ TO → c ≠ i1 → c ≠ i2 → s.heap.get? c = some o → h'.get? c = some o) → Q (some (.ref s.heap.objs.size)) { s with heap := h', toks := tk }) :
    wpAny (model prog w) A (pyNext (.ref z)) Q E s := by
  have lt : ∀ {c : Addr} {o : Obj}, s.heap.get? c = some o → s.heap.objs.size ≠ c := fun e => Nat.ne_of_gt (Heap.lt_size e)
  have l1 : s.heap.objs.size ≠ i1 := by obtain ⟨_, e⟩ := D1.live _ _ st1; exact lt e
  have l2 : s.heap.objs.size ≠ i2 := by obtain ⟨_, e⟩ := D2.live _ _ st2; exact lt e
  obtain ⟨⟨x, y, hTO⟩, hz⟩ := hz
  rcases hz with hz | ⟨T, f, oT, hz, hT, t1, t2, t3⟩
  · exact wpAny_pyNext_zipD2_item S D1 D2 hz hTI hTO st1 st2 hlt1 hlt2 fun x1 x2 h' tk y1 y2 b1 b2 d1 d2 b5 b6 b7 => hQ x1 x2 h' tk y1 y2 ⟨⟨_, _, b2⟩, .inr ⟨s.heap.objs.size, false, _, b1, b5, lt hz, l1, l2⟩⟩ d1 d2 b5 b6 b7
  · have hTy : s.TypeIs (.ref z) "zip" := ⟨_, hz, rfl⟩
    unfold pyNext
    exact wpAny_bind (wpAny_attempt (wpAny_callSpecial?_slot (name := Str.ofString "__next__") hTy PySem.F.slot_zip_next
      (wpAny_call_entry PySem.F.slot_zip_next hTy PySem.F.entry_zip_next
        (zipH_next S D1 D2 hz hT hTI st1 st2 hlt1 hlt2 fun x1 x2 h' tk y1 y2 b1 d1 d2 b5 b6 b7 => wpAny_pure (hQ x1 x2 h' tk y1 y2 ⟨⟨x, y, b7 TO _ S.TOz S.Ti1 S.Ti2 hTO⟩, .inr ⟨T, true, oT, b1, b7 T oT t1 t2 t3 hT, t1, t2, t3⟩⟩ d1 d2 b5 b6 fun c o c1 _ c2 c3 e => b7 c o c1 c2 c3 e)) (PySem.F.args_zip_next_1 _))))
theorem next_end {Q : Option Value → Shared → Prop} (S : ZipSep2 z TI TO i1 i2 fp1 fp2) (D1 : Draws prog w A.in1 i1 fp1 n1 P1 St1) (D2 : Draws prog w A.in1 i2 fp2 n2 P2 St2)
    (hz : ZOwn s.heap z TI TO i1 i2) (hTI : IsTupOf2 s.heap TI (.ref i1) (.ref i2)) (st1 : St1 i s.heap) (st2 : St2 i s.heap) (hle1 : i ≤ n1) (hle2 : i ≤ n2) (hend : i = n1 ∨ i = n2)
    (hQ : ∀ h' tk, (∀ c o, c ≠ z → c ≠ TO → c ≠ i1 → c ≠ i2 → s.heap.get? c = some o → h'.get? c = some o) → Q none { s with heap := h', toks := tk }) : wpAny (model prog w) A (pyNext (.ref z)) Q E s := by
  obtain ⟨⟨x, y, hTO⟩, hz⟩ := hz
  rcases hz with hz | ⟨T, f, oT, hz, hT, t1, t2, t3⟩
  · exact wpAny_pyNext_zipD2_end S D1 D2 hz hTI hTO st1 st2 hle1 hle2 hend hQ
  · have hTy : s.TypeIs (.ref z) "zip" := ⟨_, hz, rfl⟩
    unfold pyNext
    refine wpAny_bind (wpAny_attempt (wpAny_callSpecial?_slot (name := Str.ofString "__next__") hTy PySem.F.slot_zip_next
      (wpAny_call_entry PySem.F.slot_zip_next hTy PySem.F.entry_zip_next (zipH_end S D1 D2 hz hT hTI st1 st2 hle1 hle2 hend fun h' tk e hk he => ?_) (PySem.F.args_zip_next_1 _))))
    obtain ⟨o, ho, hc⟩ := he
    refine wpAny_bind (wpAny_isInstance (T := "StopIteration") (b := true) ⟨o, ho, hc⟩ isSubtype_stop ?_)
    exact wpAny_pure (hQ _ _ fun c o c1 _ c2 c3 e => hk c o c1 c2 c3 e)
end
/-! ### the list -/
/-- what the list has so far -/
structure Got (H0 H : Hp) (S : Addr) (xs ys : List V) (i : Nat) (acc : List V) : Prop where
  len : acc.length = i
  old : ∀ p o, H0 p = some o → p ≠ S → H p = some o
  it : ∀ j, j < i → ∃ T us x y, acc[j]? = some (.ref T) ∧ xs[j]? = some x ∧ ys[j]? = some y ∧ H T = some (bT us [x, y]) ∧ H0 T = none ∧ T ≠ S
theorem bSV.up {K : PySem.W.Frag} {H0 H : Hp} {S : Addr} {b : Bool} {a : Addr} {xs : List V} (h : bSV K b H0 a xs) (hS : H0 S = none) (k : ∀ p o, H0 p = some o → p ≠ S → H p = some o) : bSV K b H a xs := by
  have k' : ∀ o, H0 a = some o → H a = some o := fun o e => k a o e fun z => by rw [z, hS] at e; cases e
  cases b with
  | true =>
    rcases h with (h | ⟨o, h⟩) | h
    · exact .inl (.inl (k' _ h))
    · exact .inl (.inr ⟨o, k' _ h⟩)
    · exact .inr h
  | false =>
    rcases h with (h | ⟨o, h⟩) | h
    · exact .inl (.inl (k' _ h))
    · exact .inl (.inr ⟨o, k' _ h⟩)
    · exact .inr h
section
variable {X : Cx} {pins : List (Addr × Obj)} {σ : L2.St} {a d z TI TO i1 i2 S : Addr} {xs ys : List V} {R : Result → Shared → Prop} {res : Value} {H0 : Hp}
theorem ext_zip (hc : X.calm = true) (b c : Bool) (D : ZipSep2 z TI TO i1 i2 [i1, a] [i2, d]) (a1 : a ≠ i1) (a2 : d ≠ i2) (hS : ∀ q ∈ [z, TI, TO, i1, i2], q ≠ S) (hS0 : H0 S = none) (aS : a ≠ S) (dS : d ≠ S) (hx : bSV X.K b H0 a xs) (hy : bSV X.K c H0 d ys) (hn : min xs.length ys.length ≤ sizeLine) :
    ∀ (k i : Nat) (s : Shared) (H : Hp) (acc : List V), min xs.length ys.length - i = k → i ≤ min xs.length ys.length → Inv X pins σ H s → (∀ q ∈ [z, TI, TO, i1, i2], FpOk X pins H q) → ZOwn s.heap z TI TO i1 i2 → IsTupOf2 s.heap TI (.ref i1) (.ref i2) →
      bIt b s.heap i1 a i → bIt c s.heap i2 d i → H S = some (.lst acc) → Got H0 H S xs ys i acc →
      (∀ H' s' acc', Inv X pins σ H' s' → H' S = some (.lst acc') → Got H0 H' S xs ys (min xs.length ys.length) acc' → R (.ok (.ret res)) s') →
      codeAny (model X.prog X.w) X.A.in1 (.builtin "list.extend.loop" ⟨[.ref S, .ref z, res], []⟩) R s := by
  intro k
  induction k with
  | zero =>
    intro i s H acc hk hi I hf hz hTI h1 h2 hSH G hR
    have hin : i = min xs.length ys.length := by omega
    subst hin
    obtain ⟨its, rv, p⟩ := (hx.up hS0 G.old).at_ I
    obtain ⟨its2, rv2, p2⟩ := (hy.up hS0 G.old).at_ I
    have hh : X.A.in1.in1.in1.handled = none := I.ok.hd hc
    have l1 : its.toArray.size = xs.length := by rw [List.size_toArray, rv.length]
    have l2 : its2.toArray.size = ys.length := by rw [List.size_toArray, rv2.length]
    refine codeAny_builtin PySem.F.entry_extend_loop ?_
    rw [Around.under_plainId PySem.F.plain_extend_loop _]
    show wpAny _ X.A.in1.in1 (pyNext (.ref z) >>= _) _ _ s
    refine wpAny_bind (next_end D (bDraws hh b i1 a a1 its.toArray) (bDraws hh c i2 d a2 its2.toArray) hz hTI ⟨h1, p⟩ ⟨h2, p2⟩ (by omega) (by omega) (by omega) fun h' tk hk => ?_)
    have I' : Inv X pins σ H { s with heap := h', toks := tk } := I.turnedL (ch := [z, TI, TO, i1, i2])
      (fun c o hb q => hk c o (fun r => hb (by simp [r])) (fun r => hb (by simp [r])) (fun r => hb (by simp [r])) (fun r => hb (by simp [r])) q) hf
    exact wpAny_pure (hR H _ acc I' hSH G)
  | succ k ih =>
    intro i s H acc hk hi I hf hz hTI h1 h2 hSH G hR
    have hlt : i < min xs.length ys.length := by omega
    obtain ⟨its, rv, p⟩ := (hx.up hS0 G.old).at_ I
    obtain ⟨its2, rv2, p2⟩ := (hy.up hS0 G.old).at_ I
    have hh : X.A.in1.in1.in1.handled = none := I.ok.hd hc
    have l1 : its.toArray.size = xs.length := by rw [List.size_toArray, rv.length]
    have l2 : its2.toArray.size = ys.length := by rw [List.size_toArray, rv2.length]
    have ex : xs[i]? = some xs[i] := List.getElem?_eq_getElem (by omega)
    have ey : ys[i]? = some ys[i] := List.getElem?_eq_getElem (by omega)
    obtain ⟨u, hu, ru⟩ := rv.get ex
    obtain ⟨u2, hu2, ru2⟩ := rv2.get ey
    refine codeAny_builtin PySem.F.entry_extend_loop ?_
    rw [Around.under_plainId PySem.F.plain_extend_loop _]
    show wpAny _ X.A.in1.in1 (pyNext (.ref z) >>= _) _ _ s
    refine wpAny_bind (next_item D (bDraws hh b i1 a a1 its.toArray) (bDraws hh c i2 d a2 its2.toArray) hz hTI ⟨h1, p⟩ ⟨h2, p2⟩ (by omega) (by omega) fun w1 w2 h' tk e1 e2 z' s1' s2' hT hsz hk => ?_)
    have e1 : its.toArray[i]? = some w1 := e1
    have e2 : its2.toArray[i]? = some w2 := e2
    rw [List.getElem?_toArray, hu] at e1
    rw [List.getElem?_toArray, hu2] at e2
    cases e1
    cases e2
    generalize hTn : s.heap.objs.size = T at hT hsz ⊢
    have fr : H T = none := I.hok.fresh (Nat.le_of_eq hTn)
    have new : ObjOk X.prog X.w (upd H T (bT [u, u2] [xs[i], ys[i]])) h' T (bT [u, u2] [xs[i], ys[i]]) :=
      bT_ok hT (.cons ru (.cons ru2 .nil)) (by show 2 ≤ sizeLine; decide)
    have I1 : Inv X pins σ (upd H T (bT [u, u2] [xs[i], ys[i]])) { s with heap := h', toks := tk } :=
      I.turnedNew (ch := [z, TI, TO, i1, i2]) (fun c o hb q => hk c o (fun r => hb (by simp [r])) (fun r => hb (by simp [r])) (fun r => hb (by simp [r])) (fun r => hb (by simp [r])) q) hf (Nat.le_of_eq hTn) new
    have TS : T ≠ S := fun e => by rw [e, hSH] at fr; cases fr
    have hSH1 : upd H T (bT [u, u2] [xs[i], ys[i]]) S = some (.lst acc) := by rw [upd_ne (Ne.symm TS)]; exact hSH
    obtain ⟨zl, itS, nS, rS, hlS, eS⟩ := I1.lstM hSH1
    have eS : h'.get? S = some { cls := .type "list", data := .seq itS.toArray nS } := eS
    have accl := G.len
    have I2 := I1.lset (ys := acc ++ [.ref T]) (its' := itS ++ [.ref T]) (f := (·.push (.ref T))) (t' := tk) hSH1 eS (by simp) (rS.append (.cons (show L2.RelV (V.ref T) (Value.ref T) from rfl) .nil)) (by rw [List.length_append, List.length_singleton]; omega)
    show wpAny _ _ (updateSeq S (·.push (.ref T)) >>= _) _ _ _
    refine wpAny_bind ?_
    have H0T : H0 T = none := by
      cases e : H0 T with
      | none => rfl
      | some o => rw [G.old T o e TS] at fr; cases fr
    have kp : ∀ q o, q ≠ S → h'.get? q = some o → (h'.update S (Obj.mapSeq (·.push (.ref T)))).get? q = some o := fun q o hq e => (Heap.get?_update_other _ _ (Ne.symm hq)).trans e
    have kS : ∀ o, h'.get? S = some o → ∃ o', (h'.update S (Obj.mapSeq (·.push (.ref T)))).get? S = some o' := fun o e => ⟨_, Heap.get?_update_self _ eS rfl⟩
    refine wpAny_updateSeq eS rfl (wpAny_pure ⟨plainId_quiet PySem.F.plain_extend_loop _, ih (i + 1) _ _ (acc ++ [.ref T]) (by omega) (by omega) I2 (fun q hq => ?_) (z'.keep kp kS (hS z (by simp)) (hS TO (by simp))) ?_ ?_ ?_ upd_same ⟨?_, ?_, ?_⟩ hR⟩)
      (by rw [List.size_toArray, ← hlS]; omega) (by show (itS.toArray.push _).size ≤ sizeLine + 1; rw [Array.size_push, List.size_toArray, ← hlS]; omega)
    · have hlt : q < T := by
        rw [← hTn]
        have e' : q = z ∨ q = TI ∨ q = TO ∨ q = i1 ∨ q = i2 := by simpa using hq
        obtain ⟨o1, g1⟩ := (bDraws (prog := X.prog) (w := X.w) (A := X.A) (I.ok.hd hc) b i1 a a1 its.toArray).live i _ ⟨h1, p⟩
        obtain ⟨o2, g2⟩ := (bDraws (prog := X.prog) (w := X.w) (A := X.A) (I.ok.hd hc) c i2 d a2 its2.toArray).live i _ ⟨h2, p2⟩
        rcases e' with r | r | r | r | r
        · rw [r]
          rcases hz.2 with g | ⟨_, _, _, g, _⟩ <;> exact Heap.lt_size g
        · rw [r]; exact Heap.lt_size hTI
        · rw [r]; obtain ⟨_, _, g⟩ := hz.1; exact Heap.lt_size g
        · rw [r]; exact Heap.lt_size g1
        · rw [r]; exact Heap.lt_size g2
      obtain ⟨f1, f2⟩ := hf q hq
      refine ⟨?_, f2⟩
      rw [upd_ne (hS q hq), upd_ne (Nat.ne_of_lt hlt)]
      exact f1
    · exact kp TI _ (hS TI (by simp)) (hk _ _ D.TIz D.TITO D.TIi1 D.TIi2 hTI)
    · exact s1'.1.at fun o q => kp i1 o (hS i1 (by simp)) q
    · exact s2'.1.at fun o q => kp i2 o (hS i2 (by simp)) q
    · rw [List.length_append, accl]; rfl
    · intro q o e hq
      rw [upd_ne hq, upd_ne (fun r => by rw [r, H0T] at e; cases e)]
      exact G.old q o e hq
    · intro j hj
      by_cases hji : j = i
      · subst hji
        refine ⟨T, [u, u2], xs[j], ys[j], ?_, ex, ey, by rw [upd_ne TS, upd_same], H0T, TS⟩
        rw [List.getElem?_append_right (by omega), accl, Nat.sub_self]
        rfl
      · obtain ⟨T', us, x, y, q1, q2, q3, q4, q5, q6⟩ := G.it j (by omega)
        refine ⟨T', us, x, y, ?_, q2, q3, ?_, q5, q6⟩
        · rw [List.getElem?_append_left (by omega)]; exact q1
        · rw [upd_ne q6, upd_ne (fun r => by rw [r, fr] at q4; cases q4)]; exact q4
/-- list(z) of a new zip -/
theorem call_lz (hc : X.calm = true) {s : Shared} {H : Hp} (b c : Bool) {Q : VK} (D : ZipSep2 z TI TO i1 i2 [i1, a] [i2, d]) (a1 : a ≠ i1) (a2 : d ≠ i2) (hx : bSV X.K b H a xs) (hy : bSV X.K c H d ys) (hn : min xs.length ys.length ≤ sizeLine) (I : Inv X pins σ H s) (hf : ∀ q ∈ [z, TI, TO, i1, i2], FpOk X pins H q)
    (hz : IsZip s.heap z TI TO .none) (hTO : ∃ x y, IsTupOf2 s.heap TO x y) (hTI : IsTupOf2 s.heap TI (.ref i1) (.ref i2)) (h1 : bIt b s.heap i1 a 0) (h2 : bIt c s.heap i2 d 0)
    (hQ : ∀ S H' acc, H S = none → H' S = some (.lst acc) → Got H H' S xs ys (min xs.length ys.length) acc → Q (.ref S) H') :
    wpAny (model X.prog X.w) X.A (call (.type "list") [.ref z]) (EP X pins σ Q) X.xe s := by
  have zlt : z < s.heap.objs.size := Heap.lt_size hz
  have flt : ∀ q ∈ [z, TI, TO, i1, i2], q < s.heap.objs.size := fun q hq => by
    obtain ⟨its, rv, p⟩ := hx.at_ I
    obtain ⟨its2, rv2, p2⟩ := hy.at_ I
    have e' : q = z ∨ q = TI ∨ q = TO ∨ q = i1 ∨ q = i2 := by simpa using hq
    obtain ⟨o1, g1⟩ := (bDraws (prog := X.prog) (w := X.w) (A := X.A) (I.ok.hd hc) b i1 a a1 its.toArray).live 0 _ ⟨h1, p⟩
    obtain ⟨o2, g2⟩ := (bDraws (prog := X.prog) (w := X.w) (A := X.A) (I.ok.hd hc) c i2 d a2 its2.toArray).live 0 _ ⟨h2, p2⟩
    rcases e' with r | r | r | r | r
    · rw [r]; exact zlt
    · rw [r]; exact Heap.lt_size hTI
    · rw [r]; obtain ⟨_, _, g⟩ := hTO; exact Heap.lt_size g
    · rw [r]; exact Heap.lt_size g1
    · rw [r]; exact Heap.lt_size g2
  have alt : a < s.heap.objs.size := by obtain ⟨_, _, p⟩ := hx.at_ I; exact p.lt
  have dlt : d < s.heap.objs.size := by obtain ⟨_, _, p⟩ := hy.at_ I; exact p.lt
  refine callType_codes (Q₁ := fun obj s₁ => obj = .ref s.heap.objs.size ∧ s₁ = { s with heap := s.heap.push { cls := .type "list", data := .seq #[] } }) PySem.F.called_list (PySem.F.typeCall_list_1 _) PySem.F.entry_list_init
    (code_list_new _ ⟨rfl, rfl⟩) fun obj s₁ h₁ => ?_
  obtain ⟨rfl, rfl⟩ := h₁
  generalize hSn : s.heap.objs.size = S at *
  have fr : H S = none := I.hok.fresh (Nat.le_of_eq hSn)
  have hS : (s.heap.push { cls := .type "list", data := .seq #[] }).get? S = some { cls := .type "list", data := .seq #[] } := by rw [← hSn]; exact Heap.get?_push_size _ rfl
  have pu : ∀ q o, s.heap.get? q = some o → (s.heap.push { cls := .type "list", data := .seq #[] }).get? q = some o := fun q o e => Heap.get?_push_of_some _ e
  have I0 : Inv X pins σ (upd H S (.lst [])) { s with heap := s.heap.push { cls := .type "list", data := .seq #[] }, toks := s.toks } := I.laid pu (Nat.le_of_eq hSn) (show ObjOk X.prog X.w _ _ _ (.lst []) from ⟨Nat.zero_le _, [], 0, .nil, hS⟩)
  refine ⟨⟨_, hS, rfl⟩, PySem.F.args_list_init_2 _ _, ?_⟩
  show wpAny _ X.A.in1.in1 (do let old ← Builtin.List.listItems (.ref S); Builtin.List.listUpdate (.ref S) (fun _ => #[]); letGo old.toList.reverse; Builtin.List.listExtendWith (.ref S) (.ref z) .none) _ _ _
  refine wpAny_bind ?_
  unfold Builtin.List.listItems
  refine wpAny_bind (wpAny_seqItems hS rfl (wpAny_pure ?_))
  show wpAny _ X.A.in1.in1 (updateSeq S (fun _ => #[]) >>= fun _ => letGo (#[] : Array Value).toList.reverse >>= fun _ => Builtin.List.listExtendWith (.ref S) (.ref z) .none) _ _ _
  have I1 := I0.lset (l := S) (ys := []) (its := []) (its' := []) (f := fun _ => #[]) (t' := s.toks) upd_same hS rfl .nil (Nat.zero_le _)
  refine wpAny_bind (wpAny_updateSeq hS rfl ?_)
  obtain ⟨_, it1, n1, r1, _, hS₁⟩ := I1.lstM (l := S) upd_same
  cases r1
  have hS₁ : ((s.heap.push { cls := .type "list", data := .seq #[] }).update S (Obj.mapSeq (fun _ => (#[] : Array Value)))).get? S = some { cls := .type "list", data := .seq ([] : List Value).toArray n1 } := hS₁
  generalize hh1 : (s.heap.push { cls := .type "list", data := .seq #[] }).update S (Obj.mapSeq (fun _ => (#[] : Array Value))) = g1 at *
  have k1 : ∀ q o, q ≠ S → s.heap.get? q = some o → g1.get? q = some o := fun q o hq e => by rw [← hh1]; exact (Heap.get?_update_other _ _ (Ne.symm hq)).trans (pu q o e)
  refine wpAny_bind (wpAny_letGo ?_)
  unfold Builtin.List.listExtendWith
  have zS : z ≠ S := Nat.ne_of_lt zlt
  have hTz1 : ∀ (g : Heap) (tk : Nat), (∀ q o, q ≠ S → s.heap.get? q = some o → g.get? q = some o) → ({ s with heap := g, toks := tk } : Shared).TypeIs (.ref z) "zip" := fun g tk k => ⟨_, k z _ zS hz, rfl⟩
  refine wpAny_bind (wpAny_typeOf (hTz1 g1 s.toks k1) ?_)
  have e1 : Builtin.List.listSameRef (.ref S) (.ref z) = false := by simp [Builtin.List.listSameRef, Ne.symm zS]
  have e2 : (Value.type "zip" == Value.type "list") = false := by decide
  have e3 : (Value.type "zip" == Value.type "tuple") = false := by decide
  simp only [e1, e2, e3, Bool.or_false, Bool.false_eq_true, if_false]
  refine wpAny_bind (wpAny_pyIter_zip (s := { s with heap := g1 }) (k1 z _ zS hz) ?_)
  refine wpAny_bind (wpAny_holding ?_)
  unfold Builtin.List.listLengthHint
  refine wpAny_bind (wpAny_specialOf (hTz1 g1 s.toks k1) zip_no_len ?_)
  show wpAny _ _ (specialOf (Value.ref z) (Str.ofString "__length_hint__") >>= _) _ _ _
  refine wpAny_bind (wpAny_specialOf (hTz1 g1 s.toks k1) zip_no_hint ?_)
  refine wpAny_pure ?_
  show wpAny _ _ (rule "list.extend.makes-room" >>= fun _ => Builtin.List.listTouch (.ref S) >>= fun _ =>
    again (.builtin "list.extend.loop" ⟨[.ref S, .ref z, .none], []⟩)) _ _ _
  refine wpAny_bind (wpAny_rule ?_)
  refine wpAny_bind ?_
  show wpAny _ _ (updateSeq S (·.push .none) >>= fun _ => updateSeq S (·.pop)) _ _ _
  have I2 := I1.lset (l := S) (ys := [.non]) (its := []) (its' := [.none]) (f := (·.push .none)) (t' := s.toks) upd_same hS₁ rfl (.cons rfl .nil) (by rw [sizeLine_eq]; decide)
  refine wpAny_bind (wpAny_updateSeq hS₁ rfl ?_)
  obtain ⟨_, it2, n2, r2, _, hS₂⟩ := I2.lstM (l := S) upd_same
  cases r2 with
  | cons q2 r2 =>
  cases r2
  cases q2
  have hS₂ : (g1.update S (Obj.mapSeq (·.push Value.none))).get? S = some { cls := .type "list", data := .seq ([.none] : List Value).toArray n2 } := hS₂
  generalize hh2 : g1.update S (Obj.mapSeq (·.push Value.none)) = g2 at *
  have k2 : ∀ q o, q ≠ S → s.heap.get? q = some o → g2.get? q = some o := fun q o hq e => by rw [← hh2]; exact (Heap.get?_update_other _ _ (Ne.symm hq)).trans (k1 q o hq e)
  have I3 := I2.lset (l := S) (ys := []) (its := [.none]) (its' := []) (f := (·.pop)) (t' := s.toks) upd_same hS₂ rfl .nil (Nat.zero_le _)
  refine wpAny_updateSeq hS₂ rfl ?_ (by show 1 ≤ sizeLine; rw [sizeLine_eq]; decide) (by show 0 ≤ _; exact Nat.zero_le _)
  have k3 : ∀ q o, q ≠ S → s.heap.get? q = some o → (g2.update S (Obj.mapSeq (·.pop))).get? q = some o := fun q o hq e => (Heap.get?_update_other _ _ (Ne.symm hq)).trans (k2 q o hq e)
  have nS : ∀ q ∈ [z, TI, TO, i1, i2], q ≠ S := fun q hq => Nat.ne_of_lt (flt q hq)
  obtain ⟨x0, y0, hTO⟩ := hTO
  refine wpAny_pure ⟨plainId_quiet PySem.F.plain_extend_loop _, ext_zip (H0 := H) hc b c D a1 a2 nS fr (Nat.ne_of_lt alt) (Nat.ne_of_lt dlt) hx hy hn _ 0 _ _ [] rfl (Nat.zero_le _) I3 (fun q hq => ?_) ⟨⟨x0, y0, k3 TO _ (nS TO (by simp)) hTO⟩, .inl (k3 z _ zS hz)⟩ (k3 TI _ (nS TI (by simp)) hTI) (h1.at fun o q => k3 i1 o (nS i1 (by simp)) q) (h2.at fun o q => k3 i2 o (nS i2 (by simp)) q) upd_same ⟨rfl, fun q o e hq => ?_, fun j hj => absurd hj (Nat.not_lt_zero j)⟩ fun H' s' acc' I' e' G' => ?_⟩
  · obtain ⟨f1, f2⟩ := hf q hq
    refine ⟨?_, f2⟩
    rw [upd_ne (nS q hq), upd_ne (nS q hq), upd_ne (nS q hq), upd_ne (nS q hq)]
    exact f1
  · rw [upd_ne hq, upd_ne hq, upd_ne hq, upd_ne hq]
    exact e
  · exact ⟨rfl, .ref S, H', I', rfl, hQ S H' acc' fr e' G'⟩
end
end Dn
end
section
/-! Dn23: the rules list(zip(..)), dict([..]), xs.pop(i), min of tuples, x or y. -/
namespace Dn
open PySem PySem.Spec PyProof.Rows L2
/-! ### list(zip(a, b)) -/
def rLz (K : PySem.W.Frag) : List V → Hp → VK → Prop := fun vs H Q => ∃ (a d : Addr) (b c : Bool) (xs ys : List V), vs = [.ref a, .ref d] ∧ bSV K b H a xs ∧ bSV K c H d ys ∧ min xs.length ys.length ≤ sizeLine ∧
  ∀ S H' acc, H S = none → H' S = some (.lst acc) → Got H H' S xs ys (min xs.length ys.length) acc → Q (.ref S) H'
theorem pe_lz {X : Cx} {e e2 : Expr} {ta : TA} {lp zp zpos lpos : Pos} (hc : X.calm = true) (hl : Gl X "list") (ml : X.mg "list" = none) (hg : Gl X "zip") (hm : X.mg "zip" = none) (ha : PA X [e, e2] ta)
    (hs : starEach [e, e2] X.env = (false, eval e X.env) :: starEach [e2] X.env := by rfl) (hpl : (backTo zpos (starEach [e2] X.env)).any (·.1) = false := by rfl)
    (na : starEach [.Call (.Name "zip" zp) [e, e2] [] zpos] X.env = (false, eval (.Call (.Name "zip" zp) [e, e2] [] zpos) X.env) :: starEach [] X.env := by rfl) :
    PE X (.Call (.Name "list" lp) [.Call (.Name "zip" zp) [e, e2] [] zpos] [] lpos) (tCB (rLz X.K) ta) := by
  refine ⟨fun pins s σ H Q I h => ?_⟩
  refine PyProof.Rows.Call_ (ld_blt I hl ml PyProof.Rows.boot_list (PyProof.Rows.callWith_type1 (PyProof.Rows.args_cons (PyProof.Rows.Call_ (ld_blt I hg hm PyProof.Rows.boot_zip (PyProof.Rows.callWith_type1 (thn (ha.run zpos pins s σ H _ I h) fun us s1 z => ?_) hs hpl))) na) na))
  obtain ⟨vs, H1, I1, r1, a, d, b, c, xs, ys, ex, hqx, hqy, hn, q⟩ := z
  subst ex
  cases r1 with
  | cons r rr =>
    cases rr with
    | cons r' rr =>
      cases rr
      cases r
      cases r'
      obtain ⟨its, rv, p1⟩ := hqx.at_ I1
      obtain ⟨its2, rv2, p2⟩ := hqy.at_ I1
      have la := p1.lt
      have ld := p2.lt
      refine zip_begins2 (bBegins b a its.toArray) (bBegins c d its2.toArray) p1 p2 fun h' hz hTI hTO h1 h2 hsz hk => PyProof.Rows.args_nil ?_
      have I2 : Inv X pins σ H1 { s1 with heap := h' } := I1.kept (t' := s1.toks) hk
      exact call_lz hc b c (sep_nat s1.heap.objs.size a d la ld) (Nat.ne_of_lt la) (Nat.ne_of_lt (Nat.lt_succ_of_lt ld)) hqx hqy hn I2 (fun q hq => by
        have hle := fresh5 s1.heap.objs.size q hq
        exact I1.fpOk hle (I1.hok.fresh hle)) hz ⟨_, _, hTO⟩ hTI (bIt.of h1) (bIt.of h2) q
def lzD : List D → Option D
  | [x, y] => x.seq?.bind fun xs => y.seq?.bind fun ys => if xs.length ≤ 100000 ∧ D.imms xs = true ∧ D.imms ys = true then some (.lst ((xs.zip ys).map fun p => .tup [p.1, p.2])) else none
  | _ => none
theorem bSV.of {K : PySem.W.Frag} {H : Hp} {a : Addr} {xs : List V} (h : SqL K H a xs ∨ SqT K H a xs) : ∃ b, bSV K b H a xs := h.elim (fun h => ⟨true, h⟩) fun h => ⟨false, h⟩
theorem RepL.pairs {K : PySem.W.Frag} {H H' : Hp} (k : ∀ p o, H p = some o → H' p = some o) : ∀ (xs ys : List D) (vs ws acc : List V), RepL K H xs vs no → RepL K H ys ws no → acc.length = min vs.length ws.length →
    (∀ j, j < min vs.length ws.length → ∃ T us x y, acc[j]? = some (.ref T) ∧ vs[j]? = some x ∧ ws[j]? = some y ∧ H' T = some (bT us [x, y])) → RepL K H' ((xs.zip ys).map fun p => .tup [p.1, p.2]) acc no := by
  intro xs
  induction xs with
  | nil =>
    intro ys vs ws acc h1 h2 hl hj
    have h1 : vs = [] := h1
    subst h1
    exact List.length_eq_zero_iff.mp (by simpa using hl)
  | cons x xs ih =>
    intro ys vs ws acc h1 h2 hl hj
    cases ys with
    | nil =>
      have h2 : ws = [] := h2
      subst h2
      exact List.length_eq_zero_iff.mp (by simpa using hl)
    | cons y ys =>
      obtain ⟨v, vs, T1, T2, rfl, r1, r2, s1, s2, _⟩ := h1
      obtain ⟨w, ws, U1, U2, rfl, q1, q2, t1, t2, _⟩ := h2
      cases acc with
      | nil => simp only [List.length_nil, List.length_cons] at hl; omega
      | cons z acc =>
        simp only [List.length_cons] at hl hj
        obtain ⟨T, us, x', y', e1, e2, e3, e4⟩ := hj 0 (by omega)
        simp only [List.getElem?_cons_zero, Option.some.injEq] at e1 e2 e3
        subst e1 e2 e3
        have sm : Same H H' := k
        refine ⟨.ref T, acc, no, no, rfl, ?_, ih ys vs ws acc (r2.sub s2) (q2.sub t2) (by omega) fun j hj' => ?_, no_sub, no_sub, Disj.no_l⟩
        · exact ⟨T, [v, w], rfl, .inl ⟨us, e4⟩, v, [w], no, no, rfl, (r1.sub s1).same sm, ⟨w, [], no, no, rfl, (q1.sub t1).same sm, rfl, no_sub, no_sub, Disj.no_l⟩, no_sub, no_sub, Disj.no_l⟩
        · obtain ⟨T', us', x', y', e1, e2, e3, e5⟩ := hj (j + 1) (by omega)
          exact ⟨T', us', x', y', by simpa using e1, by simpa using e2, by simpa using e3, e5⟩
theorem cad_lz {K : PySem.W.Frag} : CaD K (rLz K) lzD := by
  intro H ds vs d Q r e f
  unfold lzD at e
  split at e
  · rename_i x y
    simp only [Option.bind_eq_some_iff] at e
    obtain ⟨xs, e1, ys, e2, e3⟩ := e
    split at e3
    · rename_i hi
      obtain ⟨hlen, i1, i2⟩ := hi
      cases e3
      obtain ⟨v, T, w, U, rfl, h1, h2⟩ := repB_two r
      obtain ⟨a, vs, T1, rfl, q1, l1⟩ := h1.seq e1
      obtain ⟨d, ws, U1, rfl, q2, l2⟩ := h2.seq e2
      obtain ⟨b, b1⟩ := bSV.of q1
      obtain ⟨c, c1⟩ := bSV.of q2
      refine ⟨a, d, b, c, vs, ws, rfl, b1, c1, Nat.le_trans (Nat.min_le_left ..) (by rw [l1.length]; exact line5 hlen), fun S H' acc hS hS' G => ?_⟩
      have k : ∀ p o, H p = some o → H' p = some o := fun p o e => G.old p o e fun z => by rw [z, hS] at e; cases e
      have R := RepL.pairs k xs ys vs ws acc (l1.imm i1) (l2.imm i2) G.len fun j hj => by
        obtain ⟨T', us, x', y', q1, q2, q3, q4, _⟩ := G.it j hj
        exact ⟨T', us, x', y', q1, q2, q3, q4⟩
      exact f (.ref S) H' (fun x => x = S) ⟨S, acc, no, rfl, hS', rfl, fun h => h, no_sub, R⟩ k (fun a h => by rw [h]; exact hS) fun a h => by rw [h, hS']; exact ⟨_, rfl, rfl⟩
    · cases e3
  · cases e
theorem de_lz {X : Cx} {p : Bool} {e e2 : Expr} {r : OXs} {lp zp zpos lpos : Pos} (hc : X.calm = true) (hl : Gl X "list") (ml : X.mg "list" = none) (hg : Gl X "zip") (hm : X.mg "zip" = none) (ha : DOs X p [e, e2] r)
    (hs : starEach [e, e2] X.env = (false, eval e X.env) :: starEach [e2] X.env := by rfl) (hpl : (backTo zpos (starEach [e2] X.env)).any (·.1) = false := by rfl)
    (na : starEach [.Call (.Name "zip" zp) [e, e2] [] zpos] X.env = (false, eval (.Call (.Name "zip" zp) [e, e2] [] zpos) X.env) :: starEach [] X.env := by rfl) :
    DE X p (.Call (.Name "list" lp) [.Call (.Name "zip" zp) [e, e2] [] zpos] [] lpos) (eCa lzD r) := PE.imp (pe_lz hc hl ml hg hm ha hs hpl na) fun _ _ _ w => call_ok cad_lz w
end Dn
end
section
/-! Dn24: the rules dict([..]), xs.pop(i), min of tuples, x or y. -/
namespace Dn
open PySem PySem.Spec PyProof.Rows L2 PySem PySem.W
/-! ### dict of pairs -/
def pairD : D → Option (Key × D)
  | .tup [k, d] => if d.imm = true then (keyD k).map fun k => (k, d) else none
  | _ => none
def pairsD : List D → Option (List (Key × D))
  | [] => some []
  | x :: r => (pairD x).bind fun p => (pairsD r).map fun q => p :: q
def dictD : List D → Option D
  | [d] => d.lst?.bind fun xs => (pairsD xs).map fun ks => .dcK (mergeD [] ks)
  | _ => none
section
variable {K : PySem.W.Frag} {H : Hp}
theorem pairD_rep {d : D} {p : Key × D} {v : V} {T : AS} (h : pairD d = some p) (r : Rep K H d v T) : ∃ a w, v = .ref a ∧ SqT K H a [kV p.1, w] ∧ Rep K H p.2 w no ∧ p.2.imm = true := by
  unfold pairD at h
  split at h
  · rename_i k d
    split at h
    · rename_i im
      obtain ⟨k', hk, rfl⟩ := Option.map_eq_some_iff.mp h
      obtain ⟨a, xs, rfl, q, l⟩ := r
      obtain ⟨v1, r1, T1, T2, rfl, z1, z2, _⟩ := l
      obtain ⟨v2, r2, U1, U2, rfl, y1, y2, _⟩ := z2
      have y2 : r2 = [] := y2
      subst y2
      rw [keyD_rep hk z1] at q
      exact ⟨a, v2, rfl, q.seq, y1.imm im, im⟩
    · cases h
  · cases h
theorem RepK.merge : ∀ (ds : List D) (ks : List (Key × D)) (vs : List V) (T : AS), pairsD ds = some ks → RepL K H ds vs T → ∃ (ps : List Addr) (kvs : List (Key × V)), vs = ps.map V.ref ∧ Paired (fun p kv => SqT K H p [kV kv.1, kv.2]) ps kvs ∧
    ∀ (acc : List (Key × D)) (vac : List (Key × V)), RepK K H acc vac no → RepK K H (mergeD acc ks) (mergeK vac kvs) no
  | [], ks, vs, T, h, r => by
    cases h
    have r : vs = [] := r
    subst r
    exact ⟨[], [], rfl, .nil, fun _ _ h => h⟩
  | d :: ds, ks, _, T, h, r => by
    unfold pairsD at h
    simp only [Option.bind_eq_some_iff, Option.map_eq_some_iff] at h
    obtain ⟨p, hp, q, hq, rfl⟩ := h
    obtain ⟨v, vs, T1, T2, rfl, r1, r2, _⟩ := r
    obtain ⟨a, w, rfl, sq, z, im⟩ := pairD_rep hp r1
    obtain ⟨ps, kvs, rfl, pr, m⟩ := RepK.merge ds q vs T2 hq r2
    exact ⟨a :: ps, (p.1, w) :: kvs, rfl, .cons sq pr, fun acc vac h => m _ _ (h.put z)⟩
theorem cad_dict : CaD K (fun xs H Q => ∃ (a : Addr) (ps : List Addr) (kvs : List (Key × V)), xs = [.ref a] ∧ SqL K H a (ps.map V.ref) ∧ Paired (fun p kv => SqT K H p [kV kv.1, kv.2]) ps kvs ∧ ∀ p, H p = none → Q (.ref p) (upd H p (.dK (mergeK [] kvs)))) dictD := by
  intro H ds vs d Q r e f
  unfold dictD at e
  split at e
  · simp only [Option.bind_eq_some_iff, Option.map_eq_some_iff] at e
    obtain ⟨xs, e1, ks, e2, rfl⟩ := e
    obtain ⟨v, T, rfl, h⟩ := repB_one r
    obtain ⟨a, ys, T', rfl, q, l⟩ := h.lstR' e1
    obtain ⟨ps, kvs, rfl, pr, m⟩ := RepK.merge xs ks ys T' e2 l
    refine ⟨a, ps, kvs, rfl, q, pr, fun p hp => ?_⟩
    have R : RepK K H (mergeD [] ks) (mergeK [] kvs) no := m [] [] rfl
    have sm : Same H (upd H p (.dK (mergeK [] kvs))) := Same.upd hp
    exact f (.ref p) _ (fun x => x = p) ⟨p, _, no, rfl, upd_same, rfl, fun h => h, no_sub, R.frm (S := no) (Same.frm sm) Mu.nil Disj.no_r⟩ sm (fun a h => by rw [h]; exact hp) fun a h => by rw [h, upd_same]; exact ⟨_, rfl, rfl⟩
  · cases e
end
/-! ### xs.pop(i) -/
def popF (xs : List D) (d : D) : Option (D × List D) := match d with
  | .int i => if 0 ≤ i then xs[i.toNat]?.bind fun y => if y.imm = true ∧ xs.length ≤ 100000 then some (y, xs.eraseIdx i.toNat) else none else none
  | _ => none
theorem RepL.erase {K : PySem.W.Frag} {H : Hp} : ∀ {ds : List D} {vs : List V} {T : AS} (j : Nat), RepL K H ds vs T → RepL K H (ds.eraseIdx j) (vs.eraseIdx j) T
  | [], vs, T, j, h => by
    have h : vs = [] := h
    subst h
    simp
    rfl
  | x :: ds, _, T, 0, h => by
    obtain ⟨w, vs, T1, T2, rfl, h1, h2, s1, s2, d12⟩ := h
    exact RepL.sub h2 s2
  | x :: ds, _, T, j + 1, h => by
    obtain ⟨w, vs, T1, T2, rfl, h1, h2, s1, s2, d12⟩ := h
    exact ⟨w, _, T1, T2, rfl, h1, RepL.erase j h2, s1, s2, d12⟩
theorem mud_pop {K : PySem.W.Frag} : MuD K rPopAt popF := by
  intro H a vs xs T0 d v T g ys Q hH n0 nT l k dj e f
  unfold popF at e
  split at e
  · rename_i i
    split at e
    · rename_i h0
      simp only [Option.bind_eq_some_iff] at e
      obtain ⟨y, ey, e⟩ := e
      split at e
      · rename_i im
        cases e
        have hl : i.toNat < xs.length := (List.getElem?_eq_some_iff.mp ey).1
        obtain ⟨w, T', ew, z, _⟩ := l.get ey
        cases k
        refine ⟨a, vs, i, i.toNat, w, rfl, rfl, hH, by omega, by omega, ?_, ew, ?_⟩
        · rw [l.length]; exact seqIndex_of h0 (by omega)
        · have ma : Mu H (fun b => b = a) := fun b q => by
            have q : b = a := q
            rw [q]; exact ⟨_, hH, rfl⟩
          exact f w _ T0 im.1 (l.erase i.toNat) (fun b h => .inl h) ((z.imm im.1).frm (S := fun b => b = a) (Frm.upd rfl) ma fun b h _ => h)
      · cases e
    · cases e
  · cases e
/-! ### a or b, by truth -/
def truD : D → Option Bool
  | .non => some false
  | .bl b => some b
  | .int i => some (i != 0)
  | .tup xs => some (!xs.isEmpty)
  | .lst xs => some (!xs.isEmpty)
  | _ => none
def eOrT (x y : EX) : EX := fun E => (x E).bind fun s => (truD s.1).bind fun k => if k = true then some s else y s.2
theorem emp_eq {α β : Type} {xs : List α} {ys : List β} (h : ys.length = xs.length) : ys.isEmpty = xs.isEmpty := by cases xs <;> cases ys <;> simp at h ⊢
theorem truD_rep {K : PySem.W.Frag} {H : Hp} {d : D} {v : V} {T : AS} {k : Bool} (h : truD d = some k) (r : Rep K H d v T) : TruV K v H k := by
  cases d with
  | non => cases r; cases h; rfl
  | bl b => cases r; cases h; rfl
  | int i => cases r; cases h; rfl
  | tup xs =>
    obtain ⟨a, ys, rfl, q, l⟩ := r
    have h : some (!xs.isEmpty) = some k := h
    cases h
    exact .inr (.inl ⟨ys, q.seq, by rw [emp_eq l.length]⟩)
  | lst xs =>
    obtain ⟨a, ys, T0, rfl, q, _, _, _, l⟩ := r
    have h : some (!xs.isEmpty) = some k := h
    cases h
    exact .inl ⟨ys, SqL.of q, by rw [emp_eq l.length]⟩
  | str x => cases h
  | frz x => cases h
  | dcK x => cases h
  | dcT x => cases h
theorem de_orT {X : Cx} {p q : Bool} {a b : Expr} {rest : List Expr} {pos : Pos} {x y : EX} (ha : DE X p a x) (hb : DE X q (.BoolOp .Or (b :: rest) pos) y) : DE X (p && q) (.BoolOp .Or (a :: b :: rest) pos) (eOrT x y) := by
  refine PE.imp (pe_orT ha hb) fun σ H Q w => ?_
  obtain ⟨E, S, d, E', r0, w1, w⟩ := w
  simp only [eOrT, Option.bind_eq_some_iff] at w1
  obtain ⟨⟨d1, E1⟩, e1, k, hk, w1⟩ := w1
  refine ⟨E, S, d1, E1, r0, e1, fun v1 H1 S1 T1 s1 z1 o1 m1 => ⟨k, truD_rep hk z1, ?_⟩⟩
  cases k with
  | true =>
    rw [if_pos rfl] at w1 ⊢
    cases w1
    exact w v1 H1 S1 T1 s1 z1 o1 fun hp => by
      rw [Bool.and_eq_true] at hp
      exact m1 hp.1
  | false =>
    rw [if_neg Bool.false_ne_true] at w1 ⊢
    exact ⟨E1, S1, d, E', s1.env, w1, fun v H2 S2 T s2 k2 o2 m2 => w v H2 S2 T (s1.trans s2) k2 (o2.pre s1) fun hp => by
      rw [Bool.and_eq_true] at hp
      exact (m1 hp.1).trans (m2 hp.2)⟩
/-! ### min of data -/
def bestAt (ps : List PyData) : Nat := argBest (fun i j => dataLt (ps.getD i .none) (ps.getD j .none)) (ps.length - 1)
def alikeB (ps : List PyData) : Bool := (ps.all fun x => ps.all fun y => alike x y) && ps.all fun x => !(match x with | .none => true | _ => false)
theorem alikeB_ok {ps : List PyData} (h : alikeB ps = true) : AlikeAll ps := by
  unfold alikeB at h
  rw [Bool.and_eq_true, List.all_eq_true] at h
  refine ⟨fun x hx y hy => List.all_eq_true.mp (h.1 x hx) y hy, fun x hx e => ?_⟩
  have z := List.all_eq_true.mp h.2 x hx
  rw [e] at z
  cases z
theorem min_at {prog : Program} {w : World} {A : Around} {E : Value → Shared → Prop} {s : Shared} {l : Addr} {vs : Array Value} {x : PyData} {xs : List PyData} {as : List Addr} {Q : Value → Shared → Prop} (hh : A.handled = none) (hl : s.heap.IsList l vs) (hr : ReadsAll s.heap vs.toList (x :: xs) as) (ha : AlikeAll (x :: xs)) (hu : A.units + 1 + PyData.depthAll (x :: xs) < cLine)
    (h : ∀ v h' tk, vs[bestAt (x :: xs)]? = some v → (∀ b o, s.heap.get? b = some o → h'.get? b = some o) → Q v { s with heap := h', toks := tk }) :
    wpAny (model prog w) A (call (.builtin "min") [.ref l]) Q E s := by
  have hn : vs.size = xs.length + 1 := readsAll_len hr
  refine call_min_walkH (iter_listW (A := A.in1) hh hl fun s₂ e W st hfp hw hk => ?_)
  refine ⟨_, _, _, _, _, _, _, s.heap, _, rfl, W, st, hfp, by omega, hw, hk, cmpIn_lt (A := A.in1) hr ha (by show A.units + 1 + _ < _; exact hu), fun v s' hP m => ?_⟩
  obtain ⟨h', tk, rfl, hk'⟩ := moved_old e rfl m
  have e1 : vs.size - 1 = xs.length := by omega
  have hP : vs[argBest (fun i j => dataLt ((x :: xs).getD i .none) ((x :: xs).getD j .none)) (vs.size - 1)]? = some v := hP
  rw [e1] at hP
  exact h v h' tk hP hk'
def rMinP (K : PySem.W.Frag) : List V → Hp → VK → Prop := fun vs H Q => ∃ (a : Addr) (ws : List V) (ps : List PyData), vs = [.ref a] ∧ SqL K H a ws ∧ DpAll K H ws ps ∧ ps ≠ [] ∧ AlikeAll ps ∧ PyData.depthAll ps ≤ 50 ∧ ∀ w, ws[bestAt ps]? = some w → Q w H
theorem cr_minP {X : Cx} (hc : X.calm = true) (hu : X.A.units + 65 < cLine) : CallR X (.builtin "min") (rMinP X.K) := by
  intro pins s σ H vs us Q I r h
  obtain ⟨a, ws, ps, rfl, hs, hd, hne, ha, hdp, q⟩ := h
  obtain ⟨its, rv, hl, _⟩ := I.list hs
  rw [Vals.ref1 r]
  obtain ⟨as, hr⟩ := Dp.readsAll I ps ws its hd rv
  cases ps with
  | nil => exact absurd rfl hne
  | cons x xs =>
    refine min_at (I.ok.hd hc) hl.isList (show ReadsAll s.heap its.toArray.toList (x :: xs) as from hr) ha (by omega) fun v h' tk hv hk => ?_
    rw [List.getElem?_toArray] at hv
    have hlt : bestAt (x :: xs) < ws.length := by
      have := (List.getElem?_eq_some_iff.mp hv).1
      rw [← rv.length] at this
      exact this
    obtain ⟨u, eu, ru⟩ := rv.get (List.getElem?_eq_getElem hlt)
    rw [hv] at eu
    cases eu
    exact ⟨_, H, I.kept hk, ru, q _ (List.getElem?_eq_getElem hlt)⟩
def minPD : List D → Option D
  | [d] => d.lst?.bind fun xs => if xs ≠ [] ∧ alikeB (D.pys xs) = true ∧ PyData.canLayAll0 (D.pys xs) = true ∧ PyData.depthAll (D.pys xs) ≤ 50 then xs[bestAt (D.pys xs)]?.bind fun d => if d.imm = true then some d else none else none
  | _ => none
theorem cad_minP {K : PySem.W.Frag} : CaD K (rMinP K) minPD := by
  intro H ds vs d Q r e f
  unfold minPD at e
  split at e
  · simp only [Option.bind_eq_some_iff] at e
    obtain ⟨xs, e1, e⟩ := e
    split at e
    · rename_i hc
      obtain ⟨h1, h2, h3, h4⟩ := hc
      simp only [Option.bind_eq_some_iff] at e
      obtain ⟨d', ed, e⟩ := e
      split at e
      · rename_i im
        cases e
        obtain ⟨v, T, rfl, h⟩ := repB_one r
        obtain ⟨a, ys, T', rfl, q, l⟩ := h.lstR' e1
        refine ⟨a, ys, D.pys xs, rfl, q, l.dp h3, ?_, alikeB_ok h2, h4, fun w ew => ?_⟩
        · rw [D.pys_map]
          simpa using h1
        · obtain ⟨w', T2, ew', z, _⟩ := l.get ed
          rw [ew] at ew'
          cases ew'
          exact f.scal (z.imm im)
      · cases e
    · cases e
  · cases e
theorem room_hu1 {k : Nat} {A : Around} (r : Room k A) : A.units + 1 < cLine := by have := r.un; omega
end Dn
end
section
/-! Dn25: sorted of a tuple of ints. -/
namespace Dn
open PySem PySem.Spec PyProof.Rows L2
section
variable {prog : Program} {w : World} {A : Around} {E : Value → Shared → Prop} {s : Shared}
theorem collect_tup {l : Addr} {vs : List Value} {Q : List Value → Shared → Prop} (hl : s.heap.IsTuple l vs.toArray)
    (h : Q vs { s with heap := (s.heap.push (seqObj "list" #[] 0)).update s.heap.objs.size (Obj.mapSeq (· ++ vs.toArray)) }) (hsz : vs.length ≤ sizeLine) :
    wpAny (model prog w) A (collect (.ref l)) Q E s := by
  obtain ⟨o, ho, hc, n, hd⟩ := id hl
  unfold collect
  refine wpAny_bind (wpAny_runValue (codeAny_builtin entry_proto_collect' ?_))
  show wpAny _ _ (do again (.builtin "list.__iadd__" ⟨[← newList [], .ref l], []⟩)) _ _ s
  refine wpAny_bind (wpAny_newList (wpAny_pure ⟨Code.quiet_builtin _ (by decide +kernel), codeAny_builtin entry_list_iadd' ?_⟩))
  show wpAny _ _ (Builtin.List.listExtendWith (.ref s.heap.objs.size) (.ref l) (.ref s.heap.objs.size)) _ _ { s with heap := s.heap.push (seqObj "list" #[] 0) }
  unfold Builtin.List.listExtendWith
  have ho' : (s.heap.push (seqObj "list" #[] 0)).get? l = some o := Heap.get?_push_of_some _ ho
  refine wpAny_bind (wpAny_typeOf (T := "tuple") ⟨o, ho', hc⟩ ?_)
  have ht : (Value.type "tuple" == Value.type "tuple") = true := by rfl
  rw [if_pos (by rw [ht]; simp)]
  refine wpAny_bind (listItems_at ho' hd ?_)
  refine wpAny_bind (listItems_at (xs := #[]) (n := 0) (Heap.get?_push_size _ rfl) rfl ?_)
  rw [if_neg (by simp)]
  refine wpAny_bind (listUpdate_at (xs := #[]) (n := 0) (Heap.get?_push_size _ rfl) rfl ?_ (Nat.zero_le _) (by show (#[] ++ vs.toArray).size ≤ sizeLine + 1; simp only [Array.size_append, List.size_toArray, List.length_nil]; omega))
  refine wpAny_pure ?_
  show wpAny (model prog w) A (do
      let o ← load s.heap.objs.size
      match o.data with
      | .seq xs _ => pure xs.toList
      | _ => unsupported "internal:collect") Q E { s with heap := (s.heap.push (seqObj "list" #[] 0)).update s.heap.objs.size (Obj.mapSeq (· ++ vs.toArray)) }
  refine wpAny_bind (wpAny_load (get?_update_seq (Heap.get?_push_size _ rfl) _) ?_)
  show wpAny _ _ (pure ((#[] : Array Value) ++ vs.toArray).toList) Q E _
  rw [show ((#[] : Array Value) ++ vs.toArray).toList = vs by simp]
  exact wpAny_pure h
theorem sorted_ordT {l : Addr} {vs : List Value} {ltv : Value → Value → Bool} {Q : Value → Shared → Prop} (O : SrtO.Swo ltv) (hl : s.heap.IsTuple l vs.toArray) (hz : vs.length ≤ sizeLine)
    (hS : 2 ≤ vs.length → ∀ (h₁ : Heap) (a : Addr), h₁.get? a = some (seqObj "list" vs.toArray 0) → (∀ b o, s.heap.get? b = some o → b ≠ a ∧ h₁.get? b = some o) → SrtO.SortableO prog w A.in1.in1 { s with heap := h₁ } a vs ltv)
    (h : ∀ out : List Value, SrtO.Srtd ltv out → SrtO.Stb ltv out vs → Q (.ref (s.heap.objs.size + 1)) { s with heap := sortedAll s.heap vs out.toArray }) :
    wpAny (model prog w) A (call (.builtin "sorted") [.ref l]) Q E s := by
  refine Calls.call_function_entry kind_sorted plain_sorted entry_sorted (args_sorted1 _) ?_
  unfold Builtin.«sorted»
  refine wpAny_bind (m := checkCount "sorted" 1 1 _) (wpAny_pure ?_)
  refine wpAny_bind (collect_tup hl ?_ hz)
  refine wpAny_bind (wpAny_newList ?_ hz)
  have hsz : ((s.heap.push (seqObj "list" #[] 0)).update s.heap.objs.size (Obj.mapSeq (· ++ vs.toArray))).objs.size = s.heap.objs.size + 1 := by
    rw [Heap.size_update, size_push']
  have hoL : (((s.heap.push (seqObj "list" #[] 0)).update s.heap.objs.size (Obj.mapSeq (· ++ vs.toArray))).push (seqObj "list" vs.toArray 0)).get? (s.heap.objs.size + 1) = some (seqObj "list" vs.toArray 0) := by
    rw [← hsz]; exact Heap.get?_push_size _ rfl
  have keep : ∀ b o, s.heap.get? b = some o → b ≠ s.heap.objs.size + 1 ∧ (((s.heap.push (seqObj "list" #[] 0)).update s.heap.objs.size (Obj.mapSeq (· ++ vs.toArray))).push (seqObj "list" vs.toArray 0)).get? b = some o := fun b o q => by
    have hlt : b < s.heap.objs.size := Heap.lt_size q
    refine ⟨Nat.ne_of_lt (Nat.lt_succ_of_lt hlt), Heap.get?_push_of_some _ ?_⟩
    rw [Heap.get?_update_ne _ _ _ _ (Nat.ne_of_lt hlt)]
    exact Heap.get?_push_of_some _ q
  show wpAny _ _ _ _ _ { s with heap := ((s.heap.push (seqObj "list" #[] 0)).update s.heap.objs.size (Obj.mapSeq (· ++ vs.toArray))).push (seqObj "list" vs.toArray 0) }
  rw [hsz]
  refine wpAny_bind (wpAny_holding (wpAny_call_entry slot_list_sort ⟨_, hoL, rfl⟩ entry_list_sort (SrtO.list_sort_ord O hoL hz (fun h2 => hS h2 _ _ hoL keep) fun out hs hb => ⟨_, rfl, ?_⟩) (args_list_sort _)))
  exact wpAny_pure ⟨_, rfl, h out hs hb⟩
end
def rSortedIT (K : PySem.W.Frag) : List V → Hp → VK → Prop := fun vs H Q => ∃ (a : Addr) (ns : List Int), vs = [V.ref a] ∧ (SqL K H a (ns.map V.int) ∨ SqT K H a (ns.map V.int)) ∧
  ∀ (ns' : List Int) (p : Addr), ns'.Perm ns → ns'.Pairwise (· ≤ ·) → H p = none → Q (.ref p) (upd H p (.lst (ns'.map V.int)))
theorem cr_sortedIT {X : Cx} : CallR X (.builtin "sorted") (rSortedIT X.K) := by
  intro pins s σ H vs us Q I r h
  obtain ⟨a, ns, rfl, hs, q⟩ := h
  rcases hs with hs | hs
  · exact cr_sortedI pins s σ H _ us Q I r ⟨a, ns, rfl, hs, q⟩
  obtain ⟨its, rv, hl, hz⟩ := I.tuple hs
  rw [Vals.ref1 r]
  have hi := rv.ints
  refine sorted_ordT SrtO.swo_int hl (by rw [← rv.length]; exact hz) (fun h2 h₁ a' _ _ => SrtO.ints_sortable hi h2) fun out h1 h2 => ?_
  obtain ⟨k1, k2, k3⟩ := SrtO.ints_out hi h1 h2
  obtain ⟨ep, he'⟩ := PyProof.Rows.sortedAll_at s.heap its out.toArray
  have hlen : ((out.map SrtO.iv).map V.int).length ≤ sizeLine := by
    rw [List.length_map, k2.length_eq]
    rw [List.length_map] at hz
    exact hz
  exact ⟨.ref _, upd H (s.heap.objs.size + 1) (.lst ((out.map SrtO.iv).map V.int)), I.laid (t' := s.toks) (fun _ _ => PyProof.Rows.sortedAll_old) (Nat.le_succ _) ⟨hlen, out, ep, vals_of_ints k1, he'⟩, rfl, q _ _ k2 k3 (I.hok.fresh (Nat.le_succ _))⟩
def sortD2 : List D → Option D
  | [d] => d.seq?.bind fun xs => (intsD xs).map fun ns => .lst ((srt ns).map D.int)
  | _ => none
theorem cad_sort2 {K : PySem.W.Frag} : CaD K (rSortedIT K) sortD2 := by
  intro H ds vs d Q r e f
  unfold sortD2 at e
  split at e
  · simp only [Option.bind_eq_some_iff, Option.map_eq_some_iff] at e
    obtain ⟨xs, e1, ns, e2, rfl⟩ := e
    obtain ⟨v, T, rfl, h⟩ := repB_one r
    obtain ⟨a, ys, _, rfl, q, l⟩ := h.seq e1
    refine ⟨a, ns, rfl, intsD_ok e2 l ▸ q, fun ms p h1 h2 hp => ?_⟩
    rw [srt_uniq h1 h2]
    exact f.ints hp
  · cases e
/-! ### sorted(set(xs)), xs a list of ints -/
theorem nin {a b c : Addr} (h1 : a ≠ b) (h2 : a ≠ c) : a ∉ [b, c] := fun h => (List.mem_cons.mp h).elim h1 fun h => h2 (List.mem_singleton.mp h)
/-- an empty set, as it is made -/
abbrev set0 (w : World) : Obj := { cls := .type "set", dict := none, data := .set #[] 0 (.fresh 0 0 (!w.params.followText "set-order")) }
section
variable {P : Program} {w : World} {A : Around} {E : Value → Shared → Prop} {s : Shared}
theorem call_set_listI {l : Addr} {its : Array Value} (ns : List Int) {Q : Value → Shared → Prop} (hh : A.handled = none) (hl : s.heap.IsList l its) (hi : IntsAre its.toList ns) (hb : ns.length + 1 < scanBound)
    (h : ∀ (g : Heap) (tk c : Nat), SetR w g s.heap.objs.size (fun j => decide (j ∈ ns)) c → c ≤ ns.length → (∀ b o, s.heap.get? b = some o → g.get? b = some o) → Q (.ref s.heap.objs.size) { s with heap := g, toks := tk }) :
    wpAny (model P w) A (call (.type "set") [.ref l]) Q E s := by
  have n0 : its.size = ns.length := by rw [← Array.length_toList]; exact IntsAre.length hi
  obtain ⟨_, _, m0⟩ := PySem.F.called_set.mro
  have m1 := PySem.F.called_set.made
  have m2 := PySem.F.called_set.sub
  have m3 := PySem.F.called_set.notType
  have m4 := PySem.F.called_set.canCreate
  have m5 := PySem.F.typeCall_set_1 (.ref l)
  refine wpAny_call (codeAny_of_tree ?_)
  show wpAny _ _ (callAny (.type "set") _) _ _ _
  refine wpAny_pure ⟨Code.quiet_builtin _ (by decide +kernel), codeAny_builtin PySem.F.entry_type_call ?_⟩
  rw [Around.under_plain (weight_type_call_type "set" [.ref l] []) rfl]
  repeat (any_goals (first | assumption | wp_step))
  refine codeAny_mono (code_set_led1 (.ref l) (E := E) (Q₁ := fun obj t => obj = .ref s.heap.objs.size ∧ t = { s with heap := s.heap.push (set0 w) }) ⟨rfl, rfl⟩) fun r t hr => ?_
  match r, hr with
  | .ok (.ret obj), hr =>
    obtain ⟨rfl, rfl⟩ := hr
    have S0 : (s.heap.push (set0 w)).get? s.heap.objs.size = some (set0 w) := Heap.get?_push_size _ rfl
    have T0 : Shared.TypeIs { s with heap := s.heap.push (set0 w) } (.ref s.heap.objs.size) "set" := ⟨_, S0, rfl⟩
    have m6 := PySem.F.called_set.init.lookup
    have m7 := PySem.F.called_set.init.bind (.ref s.heap.objs.size)
    repeat (any_goals (first | assumption | wp_step))
    refine codeAny_mono (codeAny_call_builtin (R := wants (fun r t => r = .none ∧ ∃ g tk c, t = { s with heap := g, toks := tk } ∧ SetR w g s.heap.objs.size (fun j => decide (j ∈ ns)) c ∧ c ≤ ns.length ∧ ∀ b o, s.heap.get? b = some o → g.get? b = some o) E)
      PySem.F.called_set.init.plain PySem.F.entry_set_init (check_set_init_1 T0 ?_)) fun r2 t2 hr2 => ?_
    · obtain ⟨⟨_, dl, _, sl⟩, ol, cl, nl, el⟩ := hl
      simp only at cl el
      subst cl el
      have ol' : (s.heap.push (set0 w)).get? l = some { cls := .type "list", dict := dl, data := .seq its nl, slots := sl } := Heap.get?_push_of_some _ ol
      have L1 : (s.heap.push (set0 w)).IsList l its := ⟨_, ol', rfl, nl, rfl⟩
      have q1 := PySem.F.sub_list_set
      have q2 := PySem.F.sub_list_frozenset
      have q3 : (Value.type "list" == Value.type "dict") = false := by decide
      unfold Builtin.«set.__init__» noKeywords Builtin.Frozenset.updateFrom
      generalize hPI : pyIter = PI
      wp_walk
      subst hPI
      refine wpAny_pyIter_list L1 (wpAny_bind (wpAny_runValue ?_))
      have lt : l < s.heap.objs.size := Heap.lt_size ol
      have z1 : (s.heap.push (set0 w)).objs.size = s.heap.objs.size + 1 := Heap.size_push ..
      have val : ∀ (i : Nat) (v : Value), its[i]? = some v → ∃ k t, ns[i]? = some k ∧ v = .int k t := fun i v hv => by
        have lti : i < ns.length := by rw [← n0]; exact (Array.getElem?_eq_some_iff.mp hv).1
        obtain ⟨t, e⟩ := IntsAre.int_at hi i v (by rw [Array.getElem?_toList]; exact hv)
        rw [List.getD_eq_getElem?_getD, List.getElem?_eq_getElem lti] at e
        exact ⟨_, t, List.getElem?_eq_getElem lti, e⟩
      refine set_update_ints ((Walks.list (by simp [hh]) _ l (by rw [z1]; exact Nat.ne_of_lt (Nat.lt_succ_of_lt lt)) its).toS) s.heap.objs.size (by rw [z1]; exact nin (Nat.ne_of_lt (Nat.lt_succ_self _)) (Nat.ne_of_gt lt)) ns n0 hb val (its.size - 0) 0 _ (by omega) (Nat.zero_le _)
        ⟨⟨_, Heap.get?_push_size _ rfl, rfl, rfl⟩, L1.push _⟩ ⟨0, Nat.le_refl 0, setR_new_at (Heap.get?_push_of_some _ S0)⟩ fun t c mv lc R => ?_
      obtain ⟨g, gg, gd, gt, go⟩ := t
      have a1 : gg = s.gens := mv.gens
      have a2 : gd = s.drawn := mv.drawn
      have a3 : go = s.os := mv.os
      subst a1 a2 a3
      show wpAny _ _ _ _ _ _
      refine wpAny_pure ?_
      show wpAny _ _ (ret Value.none) _ _ _
      refine wpAny_pure ⟨rfl, g, gt, c, rfl, R, by omega, fun b o e => mv.heap b o ?_ (Heap.get?_push_of_some _ (Heap.get?_push_of_some _ e))⟩
      have lb := Heap.lt_size e
      rw [z1]
      exact nin (Nat.ne_of_lt lb) (Nat.ne_of_lt (Nat.lt_succ_of_lt lb))
    · match r2, hr2 with
      | .ok (.ret r), hr2 =>
        obtain ⟨rfl, g, tk, c, rfl, R, lc, kp⟩ := hr2
        repeat (any_goals (first | assumption | wp_step))
        exact h _ _ _ R lc kp
      | .error e, hr2 => exact hr2
  | .error e, hr => exact hr
end
section
variable {X : Cx} {p : Bool}
def rSetL (w : World) (K : PySem.W.Frag) : List V → Hp → VK → Prop := fun vs H Q => ∃ (a : Addr) (ns : List Int), vs = [V.ref a] ∧ SqL K H a (ns.map V.int) ∧ ns.length < 64 ∧
  ∀ (q : Addr) (n : Nat), H q = none → n < 64 → Q (.ref q) (upd H q (SetO w q (fun j => decide (j ∈ ns)) n))
theorem call_setL (hc : X.calm = true) : CallR X (.type "set") (rSetL X.w X.K) := by
  intro pins s σ H xs us Q I r h
  obtain ⟨p, ns, rfl, hq, hl, q⟩ := h
  obtain ⟨u, rfl, rx⟩ := vals1 r
  cases rx
  obtain ⟨its, rv, pt, hz⟩ := I.list hq
  have hi : PyProof.Rows.IntsAre its.toArray.toList ns := ints_of_vals rv
  refine call_set_listI ns (I.ok.hd hc) pt.isList hi (by unfold scanBound; omega) fun h' tk c R1 hcn k => ?_
  exact ⟨.ref s.heap.objs.size, _, I.laid (t' := tk) (o := SetO X.w s.heap.objs.size (fun j => decide (j ∈ ns)) c) (fun b u e => k b u e) (Nat.le_refl _) (setO_new R1), rfl, q _ _ (I.hok.fresh (Nat.le_refl _)) (by omega)⟩
def setSortLD : D → Option D
  | .lst xs => (intsD xs).bind fun ns => if ns.length < 64 then some (.lst ((srtS ns).map D.int)) else none
  | _ => none
theorem de_setSortL {e : Expr} {x : OX} {np sp spos pos : Pos} (hc : X.calm = true) (ha : DO X p e x) (hg : Gl X "sorted") (hm : X.mg "sorted" = none) (hg2 : Gl X "set") (hm2 : X.mg "set" = none)
    (he : starEach [e] X.env = (false, eval e X.env) :: starEach [] X.env := by rfl)
    (he2 : starEach [.Call (.Name "set" sp) [e] [] spos] X.env = (false, eval (.Call (.Name "set" sp) [e] [] spos) X.env) :: starEach [] X.env := by rfl) :
    DE X p (.Call (.Name "sorted" np) [.Call (.Name "set" sp) [e] [] spos] [] pos) (eUn setSortLD x) := by
  refine PE.imp (pe_callB (cr_sortedSet hc) hg hm (by rfl) (pa_cons (pe_callTy (call_setL hc) hg2 hm2 (by rfl) (pa_cons ha pa_nil he) (by decide) (by decide) he (by rfl)) pa_nil he2) (by decide) (by decide) he2 (by rfl)) fun σ H Q w => ?_
  obtain ⟨E, S, d, E', r0, w1, w⟩ := w
  simp only [eUn, Option.bind_eq_some_iff, Option.map_eq_some_iff] at w1
  obtain ⟨⟨t1, E1⟩, e1, u1, ru1, d', eo, ee⟩ := w1
  injection ee with ee1 ee2
  subst ee1 ee2
  refine ⟨E, S, t1, E1, r0, e1, fun v1 H1 S1 T1 s1 k1 o1 m1 => ?_⟩
  obtain ⟨T1', z1⟩ := k1.rd s1.env ru1
  unfold setSortLD at eo
  split at eo
  · rename_i xs
    simp only [Option.bind_eq_some_iff] at eo
    obtain ⟨ns, e2, e3⟩ := eo
    split at e3
    · rename_i hl
      cases e3
      obtain ⟨a, vs, T0, rfl, q, _, _, _, l⟩ := z1
      have f := fin_of w s1 m1
      refine ⟨a, ns, rfl, intsD_ok e2 l ▸ SqL.of q, hl, fun b n hb hn => ⟨b, _, n, rfl, upd_same, hn, fun ms b2 h1 h2 h3 hb2 => ?_⟩⟩
      have em : ms = srtS ns := srtS_uniq h1 fun k => (h2 k).trans decide_eq_true_iff
      subst em
      have sm1 : Same H1 (upd H1 b (SetO X.w b (fun j => decide (j ∈ ns)) n)) := Same.upd hb
      have sm2 := sm1.trans (Same.upd (o := .lst ((srtS ns).map V.int)) hb2)
      have n2 : H1 b2 = none := by
        cases z : H1 b2 with
        | none => rfl
        | some o =>
          have z2 := sm1 b2 o z
          rw [hb2] at z2
          cases z2
      exact f _ _ (fun y => y = b2) ⟨b2, _, no, rfl, upd_same, rfl, fun z => z, no_sub, repL_ints _⟩ sm2 (fun y z => by
        have z : y = b2 := z
        rw [z]; exact n2) fun y z => by
        have z : y = b2 := z
        rw [z]; exact ⟨_, upd_same, rfl⟩
    · cases e3
  · cases eo
end
end Dn
end
section
/-! Dn26: how the new operations are worked out; typed values. -/
namespace Dn
open PySem PySem.Spec L2
section
variable {E : Env} {i j : Int} {n : Nat} {xs ys : List D} {ks : List (Key × D)}
@[simp] theorem ev_eMeth (t : String) (o : D → List D → Option D) (x : OX) (r : OXs) : eMeth t o x r E = (x E).bind fun s => (rd s.1 s.2).bind fun d0 => if d0.ty = t then (r s.2).bind fun u => (rd s.1 u.2).bind fun d => (rds u.1 u.2).bind fun ds => (o d ds).map fun d' => (d', u.2) else none := rfl
@[simp] theorem ev_eDc0 : eDc0 E = some (.dcK [], E) := rfl
@[simp] theorem ev_eOrT (x y : EX) : eOrT x y E = (x E).bind fun s => (truD s.1).bind fun k => if k = true then some s else y s.2 := rfl
@[simp] theorem ev_gSetD (i : Nat) (y : EX) (d : D) : gSetD i y d E = if isDc i E = true then (y E).bind fun s => match s.2[i]? with
  | some (some (.dcK ks)) => if ks.length < 100000 ∧ d.imm = true then (keyD s.1).map fun k => s.2.set i (some (.dcK (putD ks k d))) else none
  | _ => none else none := rfl
@[simp] theorem ev_isDc (i : Nat) : isDc i E = match E[i]? with
  | some (some (.dcK _)) => true
  | _ => false := rfl
@[simp] theorem ev_eRg1 (x : OX) : eRg1 x E = (x E).bind fun s => (rd s.1 s.2).bind fun d => match d with
  | .int j => if small6 j = true then some (rgD 0 j, s.2) else none
  | _ => none := rfl
@[simp] theorem ev_sPar2 (pin : Nat → Bool) (i j : Nat) (r : OXs) : sPar2 pin i j r E = (r E).bind fun s => (owns s.1).bind fun ds => match ds with
  | [u, v] => if pin i = true ∨ pin j = true then none else some (.nx, (s.2.set i (some u)).set j (some v))
  | _ => none := by
  unfold sPar2
  cases r E with
  | none => rfl
  | some s =>
    simp only [Option.bind_some]
    cases owns s.1 with
    | none => rfl
    | some ds =>
      simp only [Option.bind_some]
      split <;> simp_all
@[simp] theorem truD_non : truD .non = some false := rfl
@[simp] theorem truD_int : truD (.int i) = some (i != 0) := rfl
@[simp] theorem truD_tup : truD (.tup xs) = some (!xs.isEmpty) := rfl
@[simp] theorem keyD_int : keyD (.int i) = some (.inl i) := rfl
@[simp] theorem imm_dcK : (D.dcK ks).imm = false := rfl
/-! subscripts -/
@[simp] theorem ix2_t : ixD2 (.tup xs) (.int i) = match L2.atI xs i with
  | some d => if d.imm = true then some d else none
  | none => none := rfl
@[simp] theorem ix2_l : ixD2 (.lst xs) (.int i) = match L2.atI xs i with
  | some d => if d.imm = true then some d else none
  | none => none := rfl
@[simp] theorem ix2_f : ixD2 (.frz xs) (.int i) = match L2.atI xs i with
  | some d => if d.imm = true then some d else none
  | none => none := rfl
@[simp] theorem ix2_d (y : D) : ixD2 (.dcK ks) y = (keyD y).bind fun k => (getK ks k).bind fun d => if d.imm = true then some d else none := rfl
@[simp] theorem in2_t (x : D) (ys : List D) : inD2 x (.tup ys) = if (x.shp && (D.tup ys).shp) = true then some (.bl (x.has ys)) else none := rfl
@[simp] theorem in2_l (x : D) (ys : List D) : inD2 x (.lst ys) = if (x.shp && (D.lst ys).shp) = true then some (.bl (x.has ys)) else none := rfl
@[simp] theorem in2_d (x : D) : inD2 x (.dcK ks) = (keyD x).map fun k => .bl (getK ks k).isSome := rfl
@[simp] theorem nin2_t (x : D) (ys : List D) : notInD2 x (.tup ys) = if (x.shp && (D.tup ys).shp) = true then some (.bl (!x.has ys)) else none := rfl
@[simp] theorem nin2_l (x : D) (ys : List D) : notInD2 x (.lst ys) = if (x.shp && (D.lst ys).shp) = true then some (.bl (!x.has ys)) else none := rfl
@[simp] theorem nin2_d (x : D) : notInD2 x (.dcK ks) = (keyD x).map fun k => .bl (!(getK ks k).isSome) := rfl
@[simp] theorem op_get2 (y : D) : getD2 (.dcK ks) [y] = (keyD y).bind fun k => match getK ks k with
    | some d => if d.imm = true then some d else none
    | none => some .non := rfl
@[simp] theorem op_sort2_l (ns : List Int) : sortD2 [.lst (ns.map D.int)] = some (.lst ((srt ns).map D.int)) := by simp [sortD2, D.seq?]
@[simp] theorem op_sort2_t (ns : List Int) : sortD2 [.tup (ns.map D.int)] = some (.lst ((srt ns).map D.int)) := by simp [sortD2, D.seq?]
@[simp] theorem op_setSortL (ns : List Int) : setSortLD (.lst (ns.map D.int)) = if ns.length < 64 then some (.lst ((srtS ns).map D.int)) else none := by simp [setSortLD]
@[simp] theorem ty_dcK : (D.dcK ks).ty = "dict" := rfl
@[simp] theorem op_len_d : lenD [.dcK ks] = none := rfl
end
end Dn
end
section
/-! Dn27: typed values as trees. -/
namespace Dn
open PySem PySem.Spec L2
/-- a type told as trees: what cannot be changed, of depth k, equal as trees where equal -/
structure EncP {α : Type} [DecidableEq α] (f : α → D) (k : Nat) : Prop where
  imm : ∀ a, (f a).imm = true
  sh : ∀ a, (f a).shN k = true
  eq : ∀ a b, (f a).eqv (f b) = decide (a = b)
section
variable {α β : Type} [DecidableEq α] [DecidableEq β] {f : α → D} {g : β → D} {k m : Nat}
theorem EncP.shp (h : EncP f k) (a : α) (hk : k ≤ 60 := by decide) : (f a).shp = true := shN_shp (h.sh a) (by omega)
theorem EncP.imms (h : EncP f k) (l : List α) : D.imms (l.map f) = true := imms_map fun a _ => h.imm a
theorem EncP.eqAll (h : EncP f k) : ∀ l m : List α, PyData.eqvAll (D.pys (l.map f)) (D.pys (m.map f)) = decide (l = m)
  | [], [] => by simp [D.pys, PyData.eqvAll]
  | [], _ :: _ => by simp [D.pys, PyData.eqvAll]
  | _ :: _, [] => by simp [D.pys, PyData.eqvAll]
  | a :: l, b :: m => by
    rw [List.map_cons, List.map_cons, eqvAll_cons, h.eq, h.eqAll l m]
    by_cases e : a = b <;> by_cases e2 : l = m <;> simp [e, e2]
theorem EncP.tup (h : EncP f k) : EncP (fun l : List α => D.tup (l.map f)) (k + 1) where
  imm l := by rw [imm_tup]; exact h.imms l
  sh l := shN_tup fun x hx => by
    obtain ⟨a, _, rfl⟩ := List.mem_map.mp hx
    exact h.sh a
  eq l m := by rw [eqv_tx, h.eqAll]
theorem EncP.lstSh (h : EncP f k) (l : List α) : (D.lst (l.map f)).shN (k + 1) = true := shN_lst fun x hx => by
  obtain ⟨a, _, rfl⟩ := List.mem_map.mp hx
  exact h.sh a
theorem EncP.lstShp (h : EncP f k) (l : List α) (hk : k ≤ 60 := by decide) : (D.lst (l.map f)).shp = true := shN_shp (h.lstSh l) (by omega)
theorem EncP.tupShp (h : EncP f k) (l : List α) (hk : k ≤ 60 := by decide) : (D.tup (l.map f)).shp = true := shN_shp (h.tup.sh l) (by omega)
theorem EncP.lstEq (h : EncP f k) (l m : List α) : (D.lst (l.map f)).eqv (.lst (m.map f)) = decide (l = m) := by rw [eqv_lx, h.eqAll]
theorem EncP.tupEq (h : EncP f k) (l m : List α) : (D.tup (l.map f)).eqv (.tup (m.map f)) = decide (l = m) := by rw [eqv_tx, h.eqAll]
theorem EncP.has (h : EncP f k) (a : α) : ∀ l : List α, (f a).has (l.map f) = decide (a ∈ l)
  | [] => by simp
  | b :: l => by
    rw [List.map_cons, has_cons, h.has a l, h.eq]
    by_cases e : b = a
    · subst e; simp
    · have e2 : ¬ a = b := fun z => e z.symm
      simp [e, e2]
theorem EncP.pair (h : EncP f k) (h2 : EncP g m) : EncP (fun p : α × β => D.tup [f p.1, g p.2]) (max k m + 1) where
  imm p := by simp [h.imm, h2.imm]
  sh p := shN_tup fun x hx => by
    rcases List.mem_cons.mp hx with e | e
    · rw [e]; exact shN_mono (h.sh _) (Nat.le_max_left ..)
    · rw [List.mem_singleton.mp e]; exact shN_mono (h2.sh _) (Nat.le_max_right ..)
  eq p q := by
    rw [eqv_tcc, eqv_tcc, h.eq, h2.eq, eqv_tnn]
    obtain ⟨a, b⟩ := p
    obtain ⟨c, d⟩ := q
    by_cases e : a = c <;> by_cases e2 : b = d <;> simp [e, e2]
theorem EncP.find (h : EncP f k) (a : α) (l : List α) : (l.map f).findIdx? (fun y => y.eqv (f a)) = l.findIdx? (fun b => decide (b = a)) := by
  rw [List.findIdx?_map]
  congr 1
  funext b
  exact h.eq b a
/-- of another kind -/
theorem EncP.opt (h : EncP f k) (hn : ∀ a, (f a).eqv .non = false) (hn2 : ∀ a, D.non.eqv (f a) = false) : EncP (fun o : Option α => match o with | none => D.non | some a => f a) k where
  imm o := by cases o <;> simp [h.imm]
  sh o := by
    cases o with
    | none => exact shN_non k
    | some a => exact h.sh a
  eq o q := by
    cases o <;> cases q <;> simp [h.eq, hn, hn2]
    simp [D.eqv, D.py, PyData.eqv]
end
theorem encI : EncP D.int 0 := ⟨fun _ => rfl, fun i => shN_int 0 i, fun a b => eqv_int a b⟩
theorem encN : EncP (fun n : Nat => D.int n) 0 := ⟨fun _ => rfl, fun i => shN_int 0 i, fun a b => by rw [eqv_int]; exact decide_eq_decide.mpr (by omega)⟩
theorem encB : EncP D.bl 0 := ⟨fun _ => rfl, fun i => shN_bl 0 i, fun a b => by rw [eqv_bl]; cases a <;> cases b <;> rfl⟩
/-- an int or None -/
def oI : Option Int → D
  | none => .non
  | some i => .int i
theorem encO : EncP oI 0 where
  imm o := by cases o <;> rfl
  sh o := by cases o <;> simp [oI]
  eq a b := by cases a <;> cases b <;> simp [oI, D.eqv, D.py, PyData.eqv]; rfl
def oN : Option Nat → D
  | none => .non
  | some i => .int i
theorem encON : EncP oN 0 where
  imm o := by cases o <;> rfl
  sh o := by cases o <;> simp [oN]
  eq a b := by
    cases a <;> cases b <;> simp [oN, D.eqv, D.py, PyData.eqv]
    show decide _ = _
    exact decide_eq_decide.mpr (by omega)
/-! ### naturals -/
def nI (p : List Nat) : List Int := p.map fun k : Nat => (k : Int)
@[simp] theorem nI_len (p : List Nat) : (nI p).length = p.length := List.length_map ..
@[simp] theorem nI_mem (k : Nat) (p : List Nat) : (k : Int) ∈ nI p ↔ k ∈ p := by
  simp only [nI, List.mem_map]
  exact ⟨fun ⟨a, h, e⟩ => by rw [← Int.ofNat.inj e]; exact h, fun h => ⟨k, h, rfl⟩⟩
theorem nI_map (p : List Nat) : (nI p).map D.int = p.map fun k : Nat => D.int k := by simp [nI, Function.comp_def]
/-- naturals as ints as trees -/
abbrev nD (n : Nat) : D := .int n
abbrev pN (p : List Nat) : D := .tup (p.map fun k : Nat => D.int k)
abbrev lN (p : List Nat) : D := .lst (p.map fun k : Nat => D.int k)
theorem mkF_of {np n : Nat} {B : (Nat → Bool) → SX} {ds : List D} {io : List Bool} {Q : D → Env → Prop} (hd : ds.length = np) (hi : io.length = np)
    (h : Wp (B (pinOf io) (ds.map some ++ List.replicate (n - np) none)) fun f E => match f with | .rt d => Q d (outs io E) | .nx => Q .non (outs io E) | _ => False) : Wp (mkF np n B ds io) Q := by
  unfold mkF
  rw [if_pos ⟨hd, hi⟩]
  obtain ⟨f, E, e, q⟩ := h
  rw [e]
  cases f with
  | rt d => exact ⟨_, _, rfl, q⟩
  | nx => exact ⟨_, _, rfl, q⟩
  | bk => exact q.elim
  | ct => exact q.elim
theorem Wp.eq {α : Type} {r : Option (α × Env)} {a : α} {E : Env} (h : Wp r fun b E' => b = a ∧ E' = E) : r = some (a, E) := by
  obtain ⟨b, E', e, rfl, rfl⟩ := h
  exact e
/-! ### from the left: what stands behind is not looked at -/
theorem obind_congr {α β : Type} {a b : Option α} {f : α → Option β} (h : a = b) : a.bind f = b.bind f := by rw [h]
theorem omap_congr {α β : Type} {a b : Option α} {f : α → β} (h : a = b) : a.map f = b.map f := by rw [h]
/-! ### dicts of naturals -/
def lk (g : List (Nat × Nat)) (h : Nat) : Option Nat := (g.find? fun p => decide (p.1 = h)).map (·.2)
def pt (g : List (Nat × Nat)) (h y : Nat) : List (Nat × Nat) := if (g.any fun p => decide (p.1 = h)) = true then g.map (fun p => if p.1 = h then (p.1, y) else p) else g ++ [(h, y)]
def gK (g : List (Nat × Nat)) : List (Key × D) := g.map fun p => (.inl (p.1 : Int), .int p.2)
theorem key_eq (a b : Nat) : ((.inl (a : Int) : Key) = .inl (b : Int)) = (a = b) := propext ⟨fun h => by injection h with h; omega, fun h => by rw [h]⟩
@[simp] theorem getK_gK (g : List (Nat × Nat)) (h : Nat) : getK (gK g) (.inl (h : Int)) = (lk g h).map fun y : Nat => D.int y := by
  unfold getK gK lk
  induction g with
  | nil => rfl
  | cons p g ih =>
    rw [List.map_cons, List.find?_cons, List.find?_cons]
    simp only [key_eq]
    by_cases c : p.1 = h
    · simp [c]
    · simpa [c] using ih
theorem any_gK (g : List (Nat × Nat)) (h : Nat) : ((gK g).any fun kv => decide (kv.1 = .inl (h : Int))) = g.any fun p => decide (p.1 = h) := by
  unfold gK
  rw [List.any_map]
  congr 1
  funext p
  simp only [Function.comp, key_eq]
@[simp] theorem putD_gK (g : List (Nat × Nat)) (h y : Nat) : putD (gK g) (.inl (h : Int)) (.int (y : Nat)) = gK (pt g h y) := by
  unfold putD pt
  rw [any_gK]
  split
  · unfold gK
    rw [List.map_map, List.map_map]
    refine List.map_congr_left fun p _ => ?_
    simp only [Function.comp, key_eq]
    split <;> rfl
  · simp [gK]
theorem pt_len (g : List (Nat × Nat)) (h y : Nat) : (pt g h y).length ≤ g.length + 1 := by
  unfold pt
  split <;> simp
@[simp] theorem gK_len (g : List (Nat × Nat)) : (gK g).length = g.length := List.length_map ..
theorem mergeD_gK (g : List (Nat × Nat)) : ∀ (m : List (Nat × Nat)), mergeD (gK g) (gK m) = gK (m.foldl (fun a p => pt a p.1 p.2) g)
  | [] => rfl
  | p :: m => by
    show mergeD (putD (gK g) (.inl (p.1 : Int)) (.int (p.2 : Nat))) (gK m) = _
    rw [putD_gK, mergeD_gK]
    rfl
theorem pairsD_gK : ∀ m : List (Nat × Nat), pairsD (m.map fun p => .tup [.int (p.1 : Nat), .int (p.2 : Nat)]) = some (gK m)
  | [] => rfl
  | p :: m => by
    rw [List.map_cons]
    unfold pairsD
    rw [pairsD_gK m]
    rfl
@[simp] theorem dictD_gK (m : List (Nat × Nat)) : dictD [.lst (m.map fun p => .tup [.int (p.1 : Nat), .int (p.2 : Nat)])] = some (.dcK (gK (m.foldl (fun a p => pt a p.1 p.2) []))) := by
  unfold dictD
  show ((pairsD _).map _) = _
  rw [pairsD_gK]
  show some (D.dcK (mergeD (gK []) (gK m))) = _
  rw [mergeD_gK]
theorem dc_nil : (D.dcK []) = .dcK (gK []) := rfl
end Dn
end
section
namespace K59
open PySem PySem.Spec L2 Dn
/-- is_integer(value); slots 0:value -/
def B_is_integer (pin : Nat → Bool) : SX :=
    (sRet (eAnd (eUn (isiD "int") (oV 0)) (eNot (eUn (isiD "bool") (oV 0)))))
def F_is_integer : FN := mkF 1 1 B_is_integer
/-- is_between(value, low, high); slots 0:value 1:low 2:high -/
def B_is_between (pin : Nat → Bool) : SX :=
    (sRet (eAnd (eF F_is_integer (osCons (oV 0) osNil)) (eChain leD leD (oV 1) (oV 0) (oV 2))))
def F_is_between : FN := mkF 3 3 B_is_between
/-- are_between(value, low, high); slots 0:value 1:low 2:high 3:one -/
def B_are_between (pin : Nat → Bool) : SX :=
    (sRet (eAnd (eUn (isiD "tuple") (oV 0)) (eCa allD (osCons (oE (eComp (iSeq (oV 0)) [3] (gN (po [3]) 3) bYes (eF F_is_between (osCons (oV 3) (osCons (oV 1) (osCons (oV 2) osNil)))))) osNil))))
def F_are_between : FN := mkF 3 4 B_are_between
/-- check_chairs(chairs); slots 0:chairs -/
def B_check_chairs (pin : Nat → Bool) : SX :=
    (sIf (bNot (bE (eF F_is_between (osCons (oV 0) (osCons (oE (eK (.int 1))) (osCons (oE (eK (.int 6))) osNil)))))) sNever sNil)
def F_check_chairs : FN := mkF 1 1 B_check_chairs
/-- check_old(most, old); slots 0:most 1:old -/
def B_check_old (pin : Nat → Bool) : SX :=
    (sIf (bOr (bNot (bE (eF F_are_between (osCons (oV 1) (osCons (oE (eK (.int 0))) (osCons (oE (eK (.int 60))) osNil)))))) (bOr (bE (eOp2 gtD (oE (eCa lenD (osCons (oV 1) osNil))) (oV 0))) (bE (eOp2 neD (oE (eCa lstOfD (osCons (oV 1) osNil))) (oE (eCa sortD2 (osCons (oV 1) osNil))))))) sNever sNil)
def F_check_old : FN := mkF 2 2 B_check_old
/-- is_heir(value); slots 0:value -/
def B_is_heir (pin : Nat → Bool) : SX :=
    (sSeq (sIf (bOr (bNot (bE (eUn (isiD "tuple") (oV 0)))) (bOr (bE (eOp2 neD (oE (eCa lenD (osCons (oV 0) osNil))) (oE (eK (.int 3))))) (bNot (bE (eF F_is_between (osCons (oE (eOp2 ixD2 (oV 0) (oE (eK (.int 0))))) (osCons (oE (eK (.int 0))) (osCons (oE (eK (.int 40))) osNil)))))))) (sRet (eK (.bl false))) sNil)
    (sRet (eAnd (eF F_is_between (osCons (oE (eOp2 ixD2 (oV 0) (oE (eK (.int 1))))) (osCons (oE (eK (.int 0))) (osCons (oE (eK (.int 10))) osNil)))) (eF F_is_between (osCons (oE (eOp2 ixD2 (oV 0) (oE (eUn negD (oE (eK (.int 1))))))) (osCons (oE (eK (.int 1))) (osCons (oE (eK (.int 40))) osNil)))))))
def F_is_heir : FN := mkF 1 1 B_is_heir
/-- check_heirs(heirs); slots 0:heirs 1:heir -/
def B_check_heirs (pin : Nat → Bool) : SX :=
    (sIf (bOr (bNot (bE (eUn (isiD "tuple") (oV 0)))) (bOr (bE (eOp2 gtD (oE (eCa lenD (osCons (oV 0) osNil))) (oE (eK (.int 10))))) (bNot (bE (eCa allD (osCons (oE (eComp (iSeq (oV 0)) [1] (gN (po [1]) 1) bYes (eF F_is_heir (osCons (oV 1) osNil)))) osNil)))))) sNever sNil)
def F_check_heirs : FN := mkF 1 2 B_check_heirs
/-- is_rank(heirs, value); slots 0:heirs 1:value -/
def B_is_rank (pin : Nat → Bool) : SX :=
    (sRet (eAnd (eF F_are_between (osCons (oV 1) (osCons (oE (eK (.int 0))) (osCons (oE (eOp2 subD (oE (eCa lenD (osCons (oV 0) osNil))) (oE (eK (.int 1))))) osNil)))) (eOp2 eqD (oE (eCa sortD2 (osCons (oV 1) osNil))) (oE (eRg1 (oE (eCa lenD (osCons (oV 0) osNil))))))))
def F_is_rank : FN := mkF 2 2 B_is_rank
/-- check_town(chairs, old, heirs); slots 0:chairs 1:old 2:heirs -/
def B_check_town (pin : Nat → Bool) : SX :=
    (sSeq (sExp (eF F_check_chairs (osCons (oV 0) osNil)))
    (sSeq (sExp (eF F_check_old (osCons (oV 0) (osCons (oV 1) osNil))))
    (sExp (eF F_check_heirs (osCons (oV 2) osNil)))))
def F_check_town : FN := mkF 3 3 B_check_town
/-- check_ranked(chairs, old, heirs, rank); slots 0:chairs 1:old 2:heirs 3:rank -/
def B_check_ranked (pin : Nat → Bool) : SX :=
    (sSeq (sExp (eF F_check_town (osCons (oV 0) (osCons (oV 1) (osCons (oV 2) osNil)))))
    (sIf (bNot (bE (eF F_is_rank (osCons (oV 2) (osCons (oV 3) osNil))))) sNever sNil))
def F_check_ranked : FN := mkF 4 4 B_check_ranked
/-- waited_from(heir); slots 0:heir -/
def B_waited_from (pin : Nat → Bool) : SX :=
    (sRet (eOp2 addD (oE (eOp2 ixD2 (oV 0) (oE (eK (.int 0))))) (oE (eOp2 ixD2 (oV 0) (oE (eK (.int 1)))))))
def F_waited_from : FN := mkF 1 1 B_waited_from
/-- run_of(chairs, old, heirs, rank); slots 0:chairs 1:old 2:heirs 3:rank 4:until 5:given 6:found 7:year 8:free 9:ready 10:chair 11:heir -/
def B_run_of (pin : Nat → Bool) : SX :=
    (sSeq (sAsg (eTup (osCons (oE (eLst (osStar (oV 1) (osStar (oE (eOp2 mulD (oE (eLst (osCons (oE (eK (.int 0))) osNil))) (oE (eOp2 subD (oV 0) (oE (eCa lenD (osCons (oV 1) osNil))))))) osNil)))) (osCons (oE eDc0) (osCons (oE (eLst osNil)) osNil)))) (gTup 3 (gsCons (gN pin 4) (gsCons (gN pin 5) (gsCons (gN pin 6) gsNil)))))
    (sSeq (sFor (iRange 1 (osCons (oE (eOp2 addD (oE (eK (.int 60))) (oE (eK (.int 1))))) osNil)) (gN (pu sl0 pin) 7) (sSeq (sAsg (eComp (iRange 1 (osCons (oV 0) osNil)) [10] (gN (po [10]) 10) (bE (eOp2 leD (oE (eOp2 ixD2 (oV 4) (oV 10))) (oV 7))) (eV 10)) (gN (pu sl0 pin) 8))
    (sSeq (sAsg (eComp (iSeq (oV 3)) [11] (gN (po [11]) 11) (bAnd (bE (eOp2 notInD2 (oV 11) (oV 5))) (bE (eOp2 leD (oE (eF F_waited_from (osCons (oE (eOp2 ixD2 (oV 2) (oV 11))) osNil))) (oV 7)))) (eV 11)) (gN (pu sl0 pin) 9))
    (sFor (iZip (osCons (oV 8) (osCons (oV 9) osNil))) (gTup 2 (gsCons (gN (pu (sl2 8 9) (pu sl0 pin)) 10) (gsCons (gN (pu (sl2 8 9) (pu sl0 pin)) 11) gsNil))) (sSeq (sAsg (eOp2 addD (oV 7) (oE (eOp2 ixD2 (oE (eOp2 ixD2 (oV 2) (oV 11))) (oE (eUn negD (oE (eK (.int 1)))))))) (gSet 4 (eV 10)))
    (sSeq (sAsg (eV 7) (gSetD 5 (eV 11)))
    (sExp (eMut1 6 appF (eTup (osCons (oE (eV 7)) (osCons (oE (eV 10)) (osCons (oE (eV 11)) osNil))))))))))))
    (sRet (eV 6))))
def F_run_of : FN := mkF 4 12 B_run_of
/-- given_by(chairs, old, heirs, rank); slots 0:chairs 1:old 2:heirs 3:rank 4:known 5:heir 6:year 7:chair -/
def B_given_by (pin : Nat → Bool) : SX :=
    (sSeq (sAsg (eCa dictD (osCons (oE (eComp (iSeq (oE (eF F_run_of (osCons (oV 0) (osCons (oV 1) (osCons (oV 2) (osCons (oV 3) osNil))))))) [6, 7, 5] (gTup 3 (gsCons (gN (po [6, 7, 5]) 6) (gsCons (gN (po [6, 7, 5]) 7) (gsCons (gN (po [6, 7, 5]) 5) gsNil)))) bYes (eTup (osCons (oE (eV 5)) (osCons (oE (eV 6)) osNil))))) osNil)) (gN pin 4))
    (sRet (eComp (iRange 1 (osCons (oE (eCa lenD (osCons (oV 2) osNil))) osNil)) [5] (gN (po [5]) 5) bYes (eMeth "dict" getD2 (oV 4) (osCons (oV 5) osNil)))))
def F_given_by : FN := mkF 4 8 B_given_by
/-- given_in(chairs, old, heirs, rank); slots 0:chairs 1:old 2:heirs 3:rank -/
def B_given_in (pin : Nat → Bool) : SX :=
    (sSeq (sExp (eF F_check_ranked (osCons (oV 0) (osCons (oV 1) (osCons (oV 2) (osCons (oV 3) osNil))))))
    (sRet (eCa tupOfD (osCons (oE (eF F_given_by (osCons (oV 0) (osCons (oV 1) (osCons (oV 2) (osCons (oV 3) osNil)))))) osNil))))
def F_given_in : FN := mkF 4 4 B_given_in
/-- waits_by(heirs, given); slots 0:heirs 1:given 2:rows 3:heir 4:year -/
def B_waits_by (pin : Nat → Bool) : SX :=
    (sSeq (sAsg (eCa lzD (osCons (oV 0) (osCons (oV 1) osNil))) (gN pin 2))
    (sRet (eComp (iSeq (oV 2)) [3, 4] (gTup 2 (gsCons (gN (po [3, 4]) 3) (gsCons (gN (po [3, 4]) 4) gsNil))) bYes (eIf (bE (eOp2 isND (oV 4) (oE (eK .non)))) (eK .non) (eOp2 subD (oV 4) (oE (eF F_waited_from (osCons (oV 3) osNil))))))))
def F_waits_by : FN := mkF 2 5 B_waits_by
/-- longest_wait(chairs, old, heirs, rank); slots 0:chairs 1:old 2:heirs 3:rank 4:waits -/
def B_longest_wait (pin : Nat → Bool) : SX :=
    (sSeq (sExp (eF F_check_ranked (osCons (oV 0) (osCons (oV 1) (osCons (oV 2) (osCons (oV 3) osNil))))))
    (sSeq (sAsg (eF F_waits_by (osCons (oV 2) (osCons (oE (eF F_given_by (osCons (oV 0) (osCons (oV 1) (osCons (oV 2) (osCons (oV 3) osNil)))))) osNil))) (gN pin 4))
    (sSeq (sIf (bE (eOp2 eqD (oV 4) (oE (eLst osNil)))) (sRet (eK .non)) sNil)
    (sSeq (sIf (bE (eOp2 inD2 (oE (eK .non)) (oV 4))) (sRet (eTup (osCons (oE (eK .non)) (osCons (oE (eMeth "list" (idxD "list") (oV 4) (osCons (oE (eK .non)) osNil))) osNil)))) sNil)
    (sRet (eTup (osCons (oE (eCa (mmD maxI) (osCons (oV 4) osNil))) (osCons (oE (eMeth "list" (idxD "list") (oV 4) (osCons (oE (eCa (mmD maxI) (osCons (oV 4) osNil))) osNil))) osNil))))))))
def F_longest_wait : FN := mkF 4 5 B_longest_wait
/-- check_few(chairs, old, heirs); slots 0:chairs 1:old 2:heirs -/
def B_check_few (pin : Nat → Bool) : SX :=
    (sSeq (sExp (eF F_check_town (osCons (oV 0) (osCons (oV 1) (osCons (oV 2) osNil)))))
    (sIf (bE (eOp2 gtD (oE (eCa lenD (osCons (oV 2) osNil))) (oE (eK (.int 5))))) sNever sNil))
def F_check_few : FN := mkF 3 3 B_check_few
/-- check_heir(chairs, old, heirs, heir); slots 0:chairs 1:old 2:heirs 3:heir -/
def B_check_heir (pin : Nat → Bool) : SX :=
    (sSeq (sExp (eF F_check_town (osCons (oV 0) (osCons (oV 1) (osCons (oV 2) osNil)))))
    (sIf (bNot (bE (eF F_is_between (osCons (oV 3) (osCons (oE (eK (.int 0))) (osCons (oE (eOp2 subD (oE (eCa lenD (osCons (oV 2) osNil))) (oE (eK (.int 1))))) osNil)))))) sNever sNil))
def F_check_heir : FN := mkF 4 4 B_check_heir
/-- check_heir_year(chairs, old, heirs, heir, year); slots 0:chairs 1:old 2:heirs 3:heir 4:year -/
def B_check_heir_year (pin : Nat → Bool) : SX :=
    (sSeq (sExp (eF F_check_heir (osCons (oV 0) (osCons (oV 1) (osCons (oV 2) (osCons (oV 3) osNil))))))
    (sSeq (sIf (bNot (bE (eF F_is_between (osCons (oV 4) (osCons (oE (eK (.int 0))) (osCons (oE (eK (.int 60))) osNil)))))) sNever sNil)
    (sExp (eF F_check_few (osCons (oV 0) (osCons (oV 1) (osCons (oV 2) osNil)))))))
def F_check_heir_year : FN := mkF 5 5 B_check_heir_year
/-- ranks_of(many); slots 0:many 1:found 2:lap 3:longer 4:row 5:heir -/
def B_ranks_of (pin : Nat → Bool) : SX :=
    (sSeq (sAsg (eLst (osCons (oE (eTup osNil)) osNil)) (gN pin 1))
    (sSeq (sFor (iRange 1 (osCons (oV 0) osNil)) (gN (pu sl0 pin) 2) (sSeq (sAsg (eLst osNil) (gN (pu sl0 pin) 3))
    (sSeq (sFor (iSeq (oV 1)) (gN (pu (sl1 1) (pu sl0 pin)) 4) (sExp (eMut1 3 extF (eComp (iRange 1 (osCons (oV 0) osNil)) [5] (gN (po [5]) 5) (bE (eOp2 notInD2 (oV 5) (oV 4))) (eTup (osStar (oV 4) (osCons (oE (eV 5)) osNil)))))))
    (sAsg (eV 3) (gN (pu sl0 pin) 1)))))
    (sRet (eV 1))))
def F_ranks_of : FN := mkF 1 6 B_ranks_of
/-- years_of_all(chairs, old, heirs, heir); slots 0:chairs 1:old 2:heirs 3:heir 4:rows 5:rank 6:row -/
def B_years_of_all (pin : Nat → Bool) : SX :=
    (sSeq (sAsg (eComp (iSeq (oE (eF F_ranks_of (osCons (oE (eCa lenD (osCons (oV 2) osNil))) osNil)))) [5] (gN (po [5]) 5) bYes (eTup (osCons (oE (eOp2 ixD2 (oE (eF F_given_by (osCons (oV 0) (osCons (oV 1) (osCons (oV 2) (osCons (oV 5) osNil)))))) (oV 3))) (osCons (oE (eV 5)) osNil)))) (gN pin 4))
    (sRet (eComp (iSeq (oV 4)) [6] (gN (po [6]) 6) (bE (eOp2 isNotND (oE (eOp2 ixD2 (oV 6) (oE (eK (.int 0))))) (oE (eK .non)))) (eV 6))))
def F_years_of_all : FN := mkF 4 7 B_years_of_all
/-- best_first(chairs, old, heirs, heir); slots 0:chairs 1:old 2:heirs 3:heir 4:rows -/
def B_best_first (pin : Nat → Bool) : SX :=
    (sSeq (sExp (eF F_check_heir (osCons (oV 0) (osCons (oV 1) (osCons (oV 2) (osCons (oV 3) osNil))))))
    (sSeq (sExp (eF F_check_few (osCons (oV 0) (osCons (oV 1) (osCons (oV 2) osNil)))))
    (sSeq (sAsg (eF F_years_of_all (osCons (oV 0) (osCons (oV 1) (osCons (oV 2) (osCons (oV 3) osNil))))) (gN pin 4))
    (sRet (eIf (bE (eOp2 neD (oV 4) (oE (eLst osNil)))) (eOp2 ixD2 (oE (eCa minPD (osCons (oV 4) osNil))) (oE (eK (.int 0)))) (eK .non))))))
def F_best_first : FN := mkF 4 5 B_best_first
/-- rank_by(chairs, old, heirs, heir, year); slots 0:chairs 1:old 2:heirs 3:heir 4:year 5:fine 6:its 7:rank -/
def B_rank_by (pin : Nat → Bool) : SX :=
    (sSeq (sAsg (eComp (iSeq (oE (eF F_years_of_all (osCons (oV 0) (osCons (oV 1) (osCons (oV 2) (osCons (oV 3) osNil))))))) [6, 7] (gTup 2 (gsCons (gN (po [6, 7]) 6) (gsCons (gN (po [6, 7]) 7) gsNil))) (bE (eOp2 leD (oV 6) (oV 4))) (eV 7)) (gN pin 5))
    (sRet (eIf (bE (eOp2 neD (oV 5) (oE (eLst osNil)))) (eOp2 ixD2 (oV 5) (oE (eK (.int 0)))) (eK .non))))
def F_rank_by : FN := mkF 5 8 B_rank_by
/-- rank_told(chairs, old, heirs, heir, year); slots 0:chairs 1:old 2:heirs 3:heir 4:year 5:rank -/
def B_rank_told (pin : Nat → Bool) : SX :=
    (sSeq (sExp (eF F_check_heir_year (osCons (oV 0) (osCons (oV 1) (osCons (oV 2) (osCons (oV 3) (osCons (oV 4) osNil)))))))
    (sSeq (sAsg (eF F_rank_by (osCons (oV 0) (osCons (oV 1) (osCons (oV 2) (osCons (oV 3) (osCons (oV 4) osNil)))))) (gN pin 5))
    (sRet (eIf (bE (eOp2 isND (oV 5) (oE (eK .non)))) (eTup (osCons (oE (eK (.str "none"))) osNil)) (eTup (osCons (oE (eK (.str "rank"))) (osCons (oE (eV 5)) osNil)))))))
def F_rank_told : FN := mkF 5 6 B_rank_told
/-- shows_rank(chairs, old, heirs, heir, year, value); slots 0:chairs 1:old 2:heirs 3:heir 4:year 5:value 6:its -/
def B_shows_rank (pin : Nat → Bool) : SX :=
    (sSeq (sExp (eF F_check_heir_year (osCons (oV 0) (osCons (oV 1) (osCons (oV 2) (osCons (oV 3) (osCons (oV 4) osNil)))))))
    (sSeq (sIf (bOr (bNot (bE (eUn (isiD "tuple") (oV 5)))) (bOr (bE (eOp2 notInD2 (oE (eCa lenD (osCons (oV 5) osNil))) (oE (eTup (osCons (oE (eK (.int 1))) (osCons (oE (eK (.int 2))) osNil)))))) (bNot (bE (eUn (isiD "str") (oE (eOp2 ixD2 (oV 5) (oE (eK (.int 0)))))))))) (sRet (eK (.bl false))) sNil)
    (sSeq (sIf (bE (eOp2 eqD (oE (eCa lenD (osCons (oV 5) osNil))) (oE (eK (.int 1))))) (sRet (eAnd (eOp2 eqD (oE (eOp2 ixD2 (oV 5) (oE (eK (.int 0))))) (oE (eK (.str "none")))) (eOp2 isND (oE (eF F_rank_by (osCons (oV 0) (osCons (oV 1) (osCons (oV 2) (osCons (oV 3) (osCons (oV 4) osNil))))))) (oE (eK .non))))) sNil)
    (sSeq (sIf (bOr (bE (eOp2 neD (oE (eOp2 ixD2 (oV 5) (oE (eK (.int 0))))) (oE (eK (.str "rank"))))) (bNot (bE (eF F_is_rank (osCons (oV 2) (osCons (oE (eOp2 ixD2 (oV 5) (oE (eK (.int 1))))) osNil)))))) (sRet (eK (.bl false))) sNil)
    (sSeq (sAsg (eOp2 ixD2 (oE (eF F_given_by (osCons (oV 0) (osCons (oV 1) (osCons (oV 2) (osCons (oE (eOp2 ixD2 (oV 5) (oE (eK (.int 1))))) osNil)))))) (oV 3)) (gN pin 6))
    (sRet (eAnd (eOp2 isNotND (oV 6) (oE (eK .non))) (eOp2 leD (oV 6) (oV 4)))))))))
def F_shows_rank : FN := mkF 6 7 B_shows_rank
/-- longest_by(chairs, old, heirs, rank); slots 0:chairs 1:old 2:heirs 3:rank 4:waits -/
def B_longest_by (pin : Nat → Bool) : SX :=
    (sSeq (sAsg (eF F_waits_by (osCons (oV 2) (osCons (oE (eF F_given_by (osCons (oV 0) (osCons (oV 1) (osCons (oV 2) (osCons (oV 3) osNil)))))) osNil))) (gN pin 4))
    (sRet (eIf (bOr (bE (eOp2 inD2 (oE (eK .non)) (oV 4))) (bE (eOp2 eqD (oV 4) (oE (eLst osNil))))) (eK .non) (eCa (mmD maxI) (osCons (oV 4) osNil)))))
def F_longest_by : FN := mkF 4 5 B_longest_by
/-- fairest_of(chairs, old, heirs); slots 0:chairs 1:old 2:heirs 3:rows 4:rank 5:row -/
def B_fairest_of (pin : Nat → Bool) : SX :=
    (sSeq (sAsg (eComp (iSeq (oE (eF F_ranks_of (osCons (oE (eCa lenD (osCons (oV 2) osNil))) osNil)))) [4] (gN (po [4]) 4) bYes (eTup (osCons (oE (eF F_longest_by (osCons (oV 0) (osCons (oV 1) (osCons (oV 2) (osCons (oV 4) osNil)))))) (osCons (oE (eV 4)) osNil)))) (gN pin 3))
    (sSeq (sAsg (eComp (iSeq (oV 3)) [5] (gN (po [5]) 5) (bE (eOp2 isNotND (oE (eOp2 ixD2 (oV 5) (oE (eK (.int 0))))) (oE (eK .non)))) (eV 5)) (gN pin 3))
    (sRet (eIf (bE (eOp2 neD (oV 3) (oE (eLst osNil)))) (eCa minPD (osCons (oV 3) osNil)) (eK .non)))))
def F_fairest_of : FN := mkF 3 6 B_fairest_of
/-- fairest(chairs, old, heirs); slots 0:chairs 1:old 2:heirs -/
def B_fairest (pin : Nat → Bool) : SX :=
    (sSeq (sExp (eF F_check_few (osCons (oV 0) (osCons (oV 1) (osCons (oV 2) osNil)))))
    (sRet (eF F_fairest_of (osCons (oV 0) (osCons (oV 1) (osCons (oV 2) osNil))))))
def F_fairest : FN := mkF 3 3 B_fairest
/-- shows_fairest(chairs, old, heirs, value); slots 0:chairs 1:old 2:heirs 3:value 4:best -/
def B_shows_fairest (pin : Nat → Bool) : SX :=
    (sSeq (sExp (eF F_check_few (osCons (oV 0) (osCons (oV 1) (osCons (oV 2) osNil)))))
    (sSeq (sAsg (eF F_fairest_of (osCons (oV 0) (osCons (oV 1) (osCons (oV 2) osNil)))) (gN pin 4))
    (sSeq (sIf (bOr (bE (eOp2 isND (oV 4) (oE (eK .non)))) (bE (eOp2 isND (oV 3) (oE (eK .non))))) (sRet (eAnd (eOp2 isND (oV 4) (oE (eK .non))) (eOp2 isND (oV 3) (oE (eK .non))))) sNil)
    (sSeq (sIf (bOr (bNot (bE (eUn (isiD "tuple") (oV 3)))) (bOr (bE (eOp2 neD (oE (eCa lenD (osCons (oV 3) osNil))) (oE (eK (.int 2))))) (bNot (bE (eF F_is_between (osCons (oE (eOp2 ixD2 (oV 3) (oE (eK (.int 0))))) (osCons (oE (eK (.int 0))) (osCons (oE (eK (.int 100))) osNil)))))))) (sRet (eK (.bl false))) sNil)
    (sSeq (sIf (bOr (bNot (bE (eF F_is_rank (osCons (oV 2) (osCons (oE (eOp2 ixD2 (oV 3) (oE (eK (.int 1))))) osNil))))) (bE (eOp2 neD (oE (eOp2 ixD2 (oV 3) (oE (eK (.int 0))))) (oE (eOp2 ixD2 (oV 4) (oE (eK (.int 0)))))))) (sRet (eK (.bl false))) sNil)
    (sRet (eOp2 eqD (oE (eF F_longest_by (osCons (oV 0) (osCons (oV 1) (osCons (oV 2) (osCons (oE (eOp2 ixD2 (oV 3) (oE (eK (.int 1))))) osNil)))))) (oE (eOp2 ixD2 (oV 4) (oE (eK (.int 0))))))))))))
def F_shows_fairest : FN := mkF 4 5 B_shows_fairest
/-- _law_pot(script, place); slots 0:script 1:place 2:cell 3:own 4:small -/
def B__law_pot (pin : Nat → Bool) : SX :=
    (sSeq (sAsg (eIf (bE (eOp2 ltD (oV 1) (oE (eCa lenD (osCons (oV 0) osNil))))) (eOp2 ixD2 (oV 0) (oV 1)) (eOp2 addD (oE (eOp2 addD (oE (eOp2 modD (oE (eCa intOfD (osCons (oE (eCa sumD (osCons (oE (eSl slD (oV 0) pNo (pE (eK (.int 1))))) osNil))) osNil))) (oE (eK (.int 1000003))))) (oE (eOp2 mulD (oE (eK (.int 5291))) (oV 1))))) (oE (eK (.int 9143))))) (gN pin 2))
    (sSeq (sAsg (eOp2 mulD (oE (eOp2 modD (oE (eCa intOfD (osCons (oE (eCa absD (osCons (oV 2) osNil))) osNil))) (oE (eOp2 powD (oE (eOp2 powD (oE (eK (.int 10))) (oE (eK (.int 60))))) (oE (eK (.int 5))))))) (oE (eCa intOfD (osCons (oE (eOp2 geD (oE (eCa absD (osCons (oV 2) osNil))) (oE (eOp2 powD (oE (eK (.int 10))) (oE (eK (.int 18))))))) osNil)))) (gN pin 3))
    (sSeq (sAsg (eOp2 modD (oE (eCa intOfD (osCons (oV 2) osNil))) (oE (eK (.int 2305843009213693951)))) (gN pin 4))
    (sRet (eLst (osCons (oE (eV 3)) (osCons (oE (eOp2 modD (oE (eCa intOfD (osCons (oE (eOp2 addD (oE (eOp2 addD (oE (eOp2 mulD (oV 4) (oE (eK (.int 95621))))) (oE (eOp2 mulD (oE (eOp2 mulD (oE (eK (.int 15287))) (oV 1))) (oV 1))))) (oE (eK (.int 7571))))) osNil))) (oE (eK (.int 2305843009213693921))))) (osCons (oE (eK (.int 0))) osNil))))))))
def F__law_pot : FN := mkF 2 5 B__law_pot
/-- _law_take(pot, upto); slots 0:pot 1:upto 2:ring 3:blend 4:digit -/
def B__law_take (pin : Nat → Bool) : SX :=
    (sSeq (sIf (bE (eOp2 gtD (oE (eOp2 ixD2 (oV 0) (oE (eK (.int 0))))) (oE (eK (.int 0))))) (sSeq (sAsg (eOp2 modD (oE (eCa intOfD (osCons (oE (eOp2 ixD2 (oV 0) (oE (eK (.int 0))))) osNil))) (oV 1)) (gN pin 4))
    (sSeq (sAsg (eOp2 fdivD (oE (eOp2 ixD2 (oV 0) (oE (eK (.int 0))))) (oV 1)) (gSet 0 (eK (.int 0))))
    (sRet (eV 4)))) sNil)
    (sSeq (sAsg (eOp2 addD (oE (eOp2 ixD2 (oV 0) (oE (eK (.int 2))))) (oE (eK (.int 1)))) (gSet 0 (eK (.int 2))))
    (sSeq (sAsg (eOp2 ixD2 (oE (eLst (osCons (oE (eK (.int 2147483647))) (osCons (oE (eK (.int 2147483629))) (osCons (oE (eK (.int 2147483587))) (osCons (oE (eK (.int 2147483579))) osNil)))))) (oE (eOp2 modD (oE (eCa intOfD (osCons (oE (eOp2 ixD2 (oV 0) (oE (eK (.int 2))))) osNil))) (oE (eK (.int 4)))))) (gN pin 2))
    (sSeq (sAsg (eOp2 modD (oE (eCa intOfD (osCons (oE (eOp2 powD (oE (eCa intOfD (osCons (oE (eOp2 addD (oE (eOp2 addD (oE (eOp2 ixD2 (oV 0) (oE (eK (.int 1))))) (oE (eOp2 mulD (oE (eOp2 mulD (oE (eK (.int 114113))) (oE (eOp2 ixD2 (oV 0) (oE (eK (.int 2))))))) (oE (eOp2 ixD2 (oV 0) (oE (eK (.int 2))))))))) (oE (eK (.int 5263))))) osNil))) (oE (eK (.int 3))))) osNil))) (oV 2)) (gN pin 3))
    (sRet (eOp2 modD (oE (eCa intOfD (osCons (oE (eOp2 fdivD (oE (eOp2 mulD (oV 3) (oE (eOp2 addD (oE (eOp2 modD (oE (eCa intOfD (osCons (oV 3) osNil))) (oE (eK (.int 10007))))) (oE (eOp2 mulD (oE (eK (.int 3551))) (oE (eOp2 ixD2 (oV 0) (oE (eK (.int 2))))))))))) (oE (eK (.int 307))))) osNil))) (oV 1)))))))
def F__law_take : FN := mkF 2 5 B__law_take
/-- _law_of(pot, some); slots 0:pot 1:some -/
def B__law_of (pin : Nat → Bool) : SX :=
    (sRet (eOp2 ixD2 (oV 1) (oE (eF F__law_take (osCons (oV 0) (osCons (oE (eCa lenD (osCons (oV 1) osNil))) osNil))))))
def F__law_of : FN := mkF 2 2 B__law_of
/-- _law_cells(script, limit); slots 0:script 1:limit -/
def B__law_cells (pin : Nat → Bool) : SX :=
    (sRet (eRg1 (oE (eCa max2D (osCons (oE (eK (.int 1))) (osCons (oE (eCa min2D (osCons (oV 1) (osCons (oE (eCa lenD (osCons (oV 0) osNil))) osNil)))) osNil))))))
def F__law_cells : FN := mkF 2 2 B__law_cells
/-- _law_some(pot, pool, many); slots 0:pot 1:pool 2:many 3:rest 4:found -/
def B__law_some (pin : Nat → Bool) : SX :=
    (sSeq (sPar2 pin 3 4 (osCons (oE (eCa lstOfD (osCons (oV 1) osNil))) (osCons (oE (eLst osNil)) osNil)))
    (sSeq (sWhile (bAnd (bE (eOp2 neD (oV 3) (oE (eLst osNil)))) (bE (eOp2 ltD (oE (eCa lenD (osCons (oV 4) osNil))) (oV 2)))) (sExp (eMut1 4 appF (eMut1 3 popF (eF F__law_take (osCons (oV 0) (osCons (oE (eCa lenD (osCons (oV 3) osNil))) osNil)))))) 1000)
    (sRet (eV 4))))
def F__law_some : FN := mkF 3 5 B__law_some
/-- _law_places(rows); slots 0:rows 1:at -/
def B__law_places (pin : Nat → Bool) : SX :=
    (sRet (eCa tupOfD (osCons (oE (eComp (iRange 1 (osCons (oE (eCa lenD (osCons (oV 0) osNil))) osNil)) [1] (gN (po [1]) 1) bYes (eCa intOfD (osCons (oV 1) osNil)))) osNil)))
def F__law_places : FN := mkF 1 2 B__law_places
/-- _law_run(chairs, old, heirs, rank); slots 0:chairs 1:old 2:heirs 3:rank 4:until 5:given 6:year 7:free 8:waiting 9:at 10:heir -/
def B__law_run (pin : Nat → Bool) : SX :=
    (sSeq (sAsg (eTup (osCons (oE (eOp2 addD (oE (eCa lstOfD (osCons (oV 1) osNil))) (oE (eOp2 mulD (oE (eLst (osCons (oE (eK (.int 0))) osNil))) (oE (eOp2 subD (oV 0) (oE (eCa lenD (osCons (oV 1) osNil))))))))) (osCons (oE eDc0) osNil))) (gTup 2 (gsCons (gN pin 4) (gsCons (gN pin 5) gsNil))))
    (sSeq (sFor (iRange 1 (osCons (oE (eK (.int 61))) osNil)) (gN (pu sl0 pin) 6) (sSeq (sAsg (eComp (iRange 1 (osCons (oV 0) osNil)) [9] (gN (po [9]) 9) (bE (eOp2 leD (oE (eOp2 ixD2 (oV 4) (oV 9))) (oV 6))) (eV 9)) (gN (pu sl0 pin) 7))
    (sSeq (sAsg (eIf (bE (eOp2 neD (oV 7) (oE (eLst osNil)))) (eComp (iSeq (oV 3)) [10] (gN (po [10]) 10) (bAnd (bE (eOp2 notInD2 (oV 10) (oV 5))) (bE (eOp2 leD (oE (eOp2 addD (oE (eOp2 ixD2 (oE (eOp2 ixD2 (oV 2) (oV 10))) (oE (eK (.int 0))))) (oE (eOp2 ixD2 (oE (eOp2 ixD2 (oV 2) (oV 10))) (oE (eK (.int 1))))))) (oV 6)))) (eV 10)) (eLst osNil)) (gN (pu sl0 pin) 8))
    (sFor (iZip (osCons (oV 7) (osCons (oV 8) osNil))) (gTup 2 (gsCons (gN (pu (sl2 7 8) (pu sl0 pin)) 9) (gsCons (gN (pu (sl2 7 8) (pu sl0 pin)) 10) gsNil))) (sSeq (sAsg (eOp2 addD (oV 6) (oE (eOp2 ixD2 (oE (eOp2 ixD2 (oV 2) (oV 10))) (oE (eK (.int 2)))))) (gSet 4 (eV 9)))
    (sAsg (eCa intOfD (osCons (oV 6) osNil)) (gSetD 5 (eV 10))))))))
    (sRet (eCa tupOfD (osCons (oE (eComp (iSeq (oE (eF F__law_places (osCons (oV 2) osNil)))) [10] (gN (po [10]) 10) bYes (eMeth "dict" getD2 (oV 5) (osCons (oV 10) osNil)))) osNil)))))
def F__law_run : FN := mkF 4 11 B__law_run
/-- _law_ranks(many); slots 0:many 1:rows 2:lap 3:longer 4:row 5:heir -/
def B__law_ranks (pin : Nat → Bool) : SX :=
    (sSeq (sAsg (eLst (osCons (oE (eTup osNil)) osNil)) (gN pin 1))
    (sSeq (sFor (iRange 1 (osCons (oV 0) osNil)) (gN (pu sl0 pin) 2) (sSeq (sAsg (eLst osNil) (gN (pu sl0 pin) 3))
    (sSeq (sFor (iSeq (oV 1)) (gN (pu (sl1 1) (pu sl0 pin)) 4) (sExp (eMut1 3 extF (eComp (iRange 1 (osCons (oV 0) osNil)) [5] (gN (po [5]) 5) (bE (eOp2 notInD2 (oV 5) (oV 4))) (eOp2 addD (oV 4) (oE (eTup (osCons (oE (eCa intOfD (osCons (oV 5) osNil))) osNil))))))))
    (sAsg (eV 3) (gN (pu sl0 pin) 1)))))
    (sRet (eV 1))))
def F__law_ranks : FN := mkF 1 6 B__law_ranks
/-- _law_greatest(heirs, given); slots 0:heirs 1:given 2:waits 3:heir 4:year -/
def B__law_greatest (pin : Nat → Bool) : SX :=
    (sSeq (sAsg (eComp (iZip (osCons (oV 0) (osCons (oV 1) osNil))) [3, 4] (gTup 2 (gsCons (gN (po [3, 4]) 3) (gsCons (gN (po [3, 4]) 4) gsNil))) bYes (eIf (bE (eOp2 isND (oV 4) (oE (eK .non)))) (eK .non) (eOp2 subD (oE (eOp2 subD (oV 4) (oE (eOp2 ixD2 (oV 3) (oE (eK (.int 0))))))) (oE (eOp2 ixD2 (oV 3) (oE (eK (.int 1)))))))) (gN pin 2))
    (sRet (eIf (bOr (bE (eOp2 eqD (oV 2) (oE (eLst osNil)))) (bE (eOp2 inD2 (oE (eK .non)) (oV 2)))) (eK .non) (eCa (mmD maxI) (osCons (oV 2) osNil)))))
def F__law_greatest : FN := mkF 2 5 B__law_greatest
/-- _law_right(pot); slots 0:pot 1:old 2:chairs 3:heirs 4:lap 5:ranks 6:runs 7:greatest 8:known 9:told 10:heir 11:rank 12:run 13:begin 14:free 15:year 16:one 17:at 18:wait 19:some 20:first 21:had 22:its 23:number 24:last 25:far -/
def B__law_right (pin : Nat → Bool) : SX :=
    (sSeq (sAsg (eCa tupOfD (osCons (oE (eCa sortD2 (osCons (oE (eComp (iRange 1 (osCons (oE (eF F__law_take (osCons (oV 0) (osCons (oE (eK (.int 4))) osNil)))) osNil)) [4] (gN (po [4]) 4) bYes (eCa intOfD (osCons (oE (eF F__law_take (osCons (oV 0) (osCons (oE (eF F__law_of (osCons (oV 0) (osCons (oE (eLst (osCons (oE (eK (.int 3))) (osCons (oE (eK (.int 12))) (osCons (oE (eK (.int 61))) osNil))))) osNil)))) osNil)))) osNil)))) osNil))) osNil)) (gN pin 1))
    (sSeq (sAsg (eTup (osCons (oE (eCa intOfD (osCons (oE (eOp2 addD (oE (eCa max2D (osCons (oE (eK (.int 1))) (osCons (oE (eCa lenD (osCons (oV 1) osNil))) osNil)))) (oE (eF F__law_take (osCons (oV 0) (osCons (oE (eF F__law_of (osCons (oV 0) (osCons (oE (eLst (osCons (oE (eK (.int 1))) (osCons (oE (eK (.int 2))) (osCons (oE (eK (.int 3))) osNil))))) osNil)))) osNil)))))) osNil))) (osCons (oE (eLst osNil)) osNil))) (gTup 2 (gsCons (gN pin 2) (gsCons (gN pin 3) gsNil))))
    (sSeq (sFor (iRange 1 (osCons (oE (eF F__law_of (osCons (oV 0) (osCons (oE (eLst (osCons (oE (eK (.int 0))) (osCons (oE (eK (.int 1))) (osCons (oE (eK (.int 2))) (osCons (oE (eK (.int 3))) (osCons (oE (eK (.int 3))) (osCons (oE (eK (.int 4))) osNil)))))))) osNil)))) osNil)) (gN (pu sl0 pin) 4) (sSeq (sAsg (eTup (osCons (oE (eCa intOfD (osCons (oE (eF F__law_take (osCons (oV 0) (osCons (oE (eF F__law_of (osCons (oV 0) (osCons (oE (eLst (osCons (oE (eK (.int 2))) (osCons (oE (eK (.int 6))) (osCons (oE (eK (.int 41))) osNil))))) osNil)))) osNil)))) osNil))) (osCons (oE (eCa intOfD (osCons (oE (eF F__law_take (osCons (oV 0) (osCons (oE (eF F__law_of (osCons (oV 0) (osCons (oE (eLst (osCons (oE (eK (.int 1))) (osCons (oE (eK (.int 4))) (osCons (oE (eK (.int 11))) osNil))))) osNil)))) osNil)))) osNil))) (osCons (oE (eCa intOfD (osCons (oE (eOp2 addD (oE (eK (.int 1))) (oE (eF F__law_take (osCons (oV 0) (osCons (oE (eF F__law_of (osCons (oV 0) (osCons (oE (eLst (osCons (oE (eK (.int 2))) (osCons (oE (eK (.int 6))) (osCons (oE (eK (.int 40))) osNil))))) osNil)))) osNil)))))) osNil))) osNil)))) (gN (pu sl0 pin) 16))
    (sExp (eMut1 3 appF (eIf (bAnd (bE (eOp2 neD (oV 3) (oE (eLst osNil)))) (bE (eOp2 eqD (oE (eF F__law_take (osCons (oV 0) (osCons (oE (eK (.int 4))) osNil)))) (oE (eK (.int 0)))))) (eOp2 ixD2 (oV 3) (oE (eUn negD (oE (eK (.int 1)))))) (eV 16))))))
    (sSeq (sAsg (eCa tupOfD (osCons (oV 3) osNil)) (gN pin 3))
    (sSeq (sAsg (eF F__law_ranks (osCons (oE (eCa lenD (osCons (oV 3) osNil))) osNil)) (gN pin 5))
    (sSeq (sAsg (eComp (iSeq (oV 5)) [11] (gN (po [11]) 11) bYes (eF F__law_run (osCons (oV 2) (osCons (oV 1) (osCons (oV 3) (osCons (oV 11) osNil)))))) (gN pin 6))
    (sSeq (sAsg (eComp (iSeq (oV 6)) [12] (gN (po [12]) 12) bYes (eF F__law_greatest (osCons (oV 3) (osCons (oV 12) osNil)))) (gN pin 7))
    (sSeq (sAsg (eComp (iSeq (oV 7)) [23] (gN (po [23]) 23) (bE (eOp2 isNotND (oV 23) (oE (eK .non)))) (eV 23)) (gN pin 8))
    (sSeq (sAsg (eF F_fairest (osCons (oV 2) (osCons (oV 1) (osCons (oV 3) osNil)))) (gN pin 9))
    (sSeq (sIf (bOr (bE (eOp2 neD (oE (eOp2 isND (oV 9) (oE (eK .non)))) (oE (eOp2 eqD (oV 8) (oE (eLst osNil)))))) (bE (eOp2 isNotBD (oE (eF F_shows_fairest (osCons (oV 2) (osCons (oV 1) (osCons (oV 3) (osCons (oV 9) osNil)))))) (oE (eK (.bl true)))))) (sRet (eK (.bl false))) sNil)
    (sSeq (sIf (bAnd (bE (eOp2 isNotND (oV 9) (oE (eK .non)))) (bOr (bE (eOp2 neD (oE (eCa reprD (osCons (oE (eOp2 ixD2 (oV 9) (oE (eK (.int 0))))) osNil))) (oE (eCa reprD (osCons (oE (eCa (mmD minI) (osCons (oV 8) osNil))) osNil))))) (bE (eOp2 neD (oE (eOp2 ixD2 (oV 7) (oE (eMeth "list" (idxD "list") (oV 5) (osCons (oE (eOp2 ixD2 (oV 9) (oE (eK (.int 1))))) osNil))))) (oE (eOp2 ixD2 (oV 9) (oE (eK (.int 0))))))))) (sRet (eK (.bl false))) sNil)
    (sSeq (sFor (iRange 1 (osCons (oE (eK (.int 3))) osNil)) (gN (pu sl0 pin) 4) (sSeq (sAsg (eF F__law_take (osCons (oV 0) (osCons (oE (eCa lenD (osCons (oV 5) osNil))) osNil))) (gN (pu sl0 pin) 17))
    (sSeq (sIf (bAnd (bE (eOp2 neD (oV 8) (oE (eLst osNil)))) (bE (eOp2 neD (oE (eF F_shows_fairest (osCons (oV 2) (osCons (oV 1) (osCons (oV 3) (osCons (oE (eTup (osCons (oE (eCa (mmD minI) (osCons (oV 8) osNil))) (osCons (oE (eOp2 ixD2 (oV 5) (oV 17))) osNil)))) osNil)))))) (oE (eOp2 eqD (oE (eOp2 ixD2 (oV 7) (oV 17))) (oE (eCa (mmD minI) (osCons (oV 8) osNil)))))))) (sRet (eK (.bl false))) sNil)
    (sSeq (sIf (bE (eOp2 neD (oE (eCa reprD (osCons (oE (eF F_given_in (osCons (oV 2) (osCons (oV 1) (osCons (oV 3) (osCons (oE (eOp2 ixD2 (oV 5) (oV 17))) osNil)))))) osNil))) (oE (eCa reprD (osCons (oE (eOp2 ixD2 (oV 6) (oV 17))) osNil))))) (sRet (eK (.bl false))) sNil)
    (sSeq (sAsg (eF F_longest_wait (osCons (oV 2) (osCons (oV 1) (osCons (oV 3) (osCons (oE (eOp2 ixD2 (oV 5) (oV 17))) osNil))))) (gN (pu sl0 pin) 18))
    (sSeq (sIf (bE (eOp2 neD (oE (eCa reprD (osCons (oE (eIf (bE (eOp2 isND (oV 18) (oE (eK .non)))) (eK .non) (eOp2 ixD2 (oV 18) (oE (eK (.int 0)))))) osNil))) (oE (eCa reprD (osCons (oE (eOp2 ixD2 (oV 7) (oV 17))) osNil))))) (sRet (eK (.bl false))) sNil)
    (sIf (bAnd (bE (eOp2 neD (oV 8) (oE (eLst osNil)))) (bE (eOp2 isNotBD (oE (eF F_shows_fairest (osCons (oV 2) (osCons (oV 1) (osCons (oV 3) (osCons (oE (eTup (osCons (oE (eOp2 addD (oE (eCa (mmD minI) (osCons (oV 8) osNil))) (oE (eK (.int 1))))) (osCons (oE (eOp2 ixD2 (oV 5) (oV 17))) osNil)))) osNil)))))) (oE (eK (.bl false)))))) (sRet (eK (.bl false))) sNil)))))))
    (sSeq (sFor (iSeq (oE (eF F__law_some (osCons (oV 0) (osCons (oE (eF F__law_places (osCons (oV 3) osNil))) (osCons (oE (eK (.int 2))) osNil)))))) (gN (pu sl0 pin) 10) (sSeq (sAsg (eComp (iSeq (oV 6)) [12] (gN (po [12]) 12) (bE (eOp2 isNotND (oE (eOp2 ixD2 (oV 12) (oV 10))) (oE (eK .non)))) (eOp2 ixD2 (oV 12) (oV 10))) (gN (pu sl0 pin) 19))
    (sSeq (sAsg (eIf (bE (eOp2 neD (oV 19) (oE (eLst osNil)))) (eCa (mmD minI) (osCons (oV 19) osNil)) (eK .non)) (gN (pu sl0 pin) 20))
    (sSeq (sIf (bE (eOp2 neD (oE (eCa reprD (osCons (oE (eF F_best_first (osCons (oV 2) (osCons (oV 1) (osCons (oV 3) (osCons (oV 10) osNil)))))) osNil))) (oE (eCa reprD (osCons (oV 20) osNil))))) (sRet (eK (.bl false))) sNil)
    (sFor (iSeq (oE (eUn setSortLD (oE (eLst (osCons (oE (eK (.int 60))) (osCons (oE (eCa max2D (osCons (oE (eK (.int 0))) (osCons (oE (eOp2 subD (oE (eOrT (eV 20) (eK (.int 0)))) (oE (eK (.int 1))))) osNil)))) (osCons (oE (eOrT (eV 20) (eK (.int 0)))) osNil)))))))) (gN (pu sl0 (pu sl0 pin)) 15) (sSeq (sAsg (eF F_rank_told (osCons (oV 2) (osCons (oV 1) (osCons (oV 3) (osCons (oV 10) (osCons (oE (eCa intOfD (osCons (oV 15) osNil))) osNil)))))) (gN (pu sl0 (pu sl0 pin)) 22))
    (sSeq (sIf (bOr (bE (eOp2 neD (oE (eOp2 eqD (oE (eOp2 ixD2 (oV 22) (oE (eK (.int 0))))) (oE (eK (.str "rank"))))) (oE (eAnd (eOp2 isNotND (oV 20) (oE (eK .non))) (eOp2 leD (oV 20) (oV 15)))))) (bE (eOp2 isNotBD (oE (eF F_shows_rank (osCons (oV 2) (osCons (oV 1) (osCons (oV 3) (osCons (oV 10) (osCons (oE (eCa intOfD (osCons (oV 15) osNil))) (osCons (oV 22) osNil)))))))) (oE (eK (.bl true)))))) (sRet (eK (.bl false))) sNil)
    (sSeq (sAsg (eF F__law_take (osCons (oV 0) (osCons (oE (eCa lenD (osCons (oV 5) osNil))) osNil))) (gN (pu sl0 (pu sl0 pin)) 17))
    (sSeq (sIf (bE (eOp2 neD (oE (eF F_shows_rank (osCons (oV 2) (osCons (oV 1) (osCons (oV 3) (osCons (oV 10) (osCons (oE (eCa intOfD (osCons (oV 15) osNil))) (osCons (oE (eTup (osCons (oE (eK (.str "rank"))) (osCons (oE (eOp2 ixD2 (oV 5) (oV 17))) osNil)))) osNil)))))))) (oE (eAnd (eOp2 isNotND (oE (eOp2 ixD2 (oE (eOp2 ixD2 (oV 6) (oV 17))) (oV 10))) (oE (eK .non))) (eOp2 leD (oE (eOp2 ixD2 (oE (eOp2 ixD2 (oV 6) (oV 17))) (oV 10))) (oV 15)))))) (sRet (eK (.bl false))) sNil)
    (sIf (bE (eOp2 neD (oE (eF F_shows_rank (osCons (oV 2) (osCons (oV 1) (osCons (oV 3) (osCons (oV 10) (osCons (oE (eCa intOfD (osCons (oV 15) osNil))) (osCons (oE (eTup (osCons (oE (eK (.str "none"))) osNil))) osNil)))))))) (oE (eOp2 eqD (oE (eOp2 ixD2 (oV 22) (oE (eK (.int 0))))) (oE (eK (.str "none"))))))) (sRet (eK (.bl false))) sNil))))))))))
    (sSeq (sIf (bE (eOp2 eqD (oV 3) (oE (eTup osNil)))) (sRet (eOp2 isBD (oE (eF F_shows_fairest (osCons (oV 2) (osCons (oV 1) (osCons (oV 3) (osCons (oE (eTup (osCons (oE (eK (.int 0))) (osCons (oE (eTup osNil)) osNil)))) osNil)))))) (oE (eK (.bl false))))) sNil)
    (sSeq (sAsg (eF F__law_of (osCons (oV 0) (osCons (oV 5) osNil))) (gN pin 11))
    (sSeq (sAsg (eTup (osCons (oE (eOp2 ixD2 (oV 6) (oE (eMeth "list" (idxD "list") (oV 5) (osCons (oV 11) osNil))))) (osCons (oE (eOp2 ixD2 (oV 11) (oE (eK (.int 0))))) osNil))) (gTup 2 (gsCons (gN pin 12) (gsCons (gN pin 10) gsNil))))
    (sSeq (sAsg (eOp2 addD (oE (eOp2 ixD2 (oE (eOp2 ixD2 (oV 3) (oV 10))) (oE (eK (.int 0))))) (oE (eOp2 ixD2 (oE (eOp2 ixD2 (oV 3) (oV 10))) (oE (eK (.int 1)))))) (gN pin 13))
    (sSeq (sAsg (eLst osNil) (gN pin 14))
    (sSeq (sFor (iRange 2 (osCons (oV 13) (osCons (oE (eK (.int 61))) osNil))) (gN (pu sl0 pin) 15) (sSeq (sAsg (eOp2 addD (oE (eCa lenD (osCons (oE (eComp (iSeq (oV 1)) [24] (gN (po [24]) 24) (bE (eOp2 gtD (oV 24) (oV 15))) (eV 24))) osNil))) (oE (eCa lenD (osCons (oE (eComp (iEnum (osCons (oV 12) osNil)) [25, 22] (gTup 2 (gsCons (gN (po [25, 22]) 25) (gsCons (gN (po [25, 22]) 22) gsNil))) (bAnd (bE (eOp2 neD (oV 25) (oV 10))) (bAnd (bE (eOp2 isNotND (oV 22) (oE (eK .non)))) (bE (eChain ltD ltD (oV 22) (oV 15) (oE (eOp2 addD (oV 22) (oE (eOp2 ixD2 (oE (eOp2 ixD2 (oV 3) (oV 25))) (oE (eK (.int 2))))))))))) (eK (.int 1)))) osNil)))) (gN (pu sl0 pin) 21))
    (sExp (eMut1 14 extF (eIf (bE (eOp2 ltD (oV 21) (oV 2))) (eLst (osCons (oE (eV 15)) osNil)) (eLst osNil))))))
    (sRet (eOr (eAnd (eOp2 isND (oE (eOp2 ixD2 (oV 12) (oV 10))) (oE (eK .non))) (eOp2 eqD (oV 14) (oE (eLst osNil)))) (eAnd (eOp2 isNotND (oE (eOp2 ixD2 (oV 12) (oV 10))) (oE (eK .non))) (eOp2 eqD (oE (eOp2 ixD2 (oV 12) (oV 10))) (oE (eOp2 ixD2 (oV 14) (oE (eK (.int 0))))))))))))))))))))))))))))
def F__law_right : FN := mkF 1 26 B__law_right
/-- law(script); slots 0:script 1:place 2:pot 3:lap -/
def B_law (pin : Nat → Bool) : SX :=
    (sSeq (sFor (iSeq (oE (eF F__law_cells (osCons (oV 0) (osCons (oE (eK (.int 2))) osNil))))) (gN (pu sl0 pin) 1) (sSeq (sAsg (eF F__law_pot (osCons (oV 0) (osCons (oV 1) osNil))) (gN (pu sl0 pin) 2))
    (sIf (bNot (bE (eCa allD (osCons (oE (eComp (iRange 1 (osCons (oE (eK (.int 1))) osNil)) [3] (gN (po [3]) 3) bYes (eF F__law_right (osCons (oV 2) osNil)))) osNil)))) (sRet (eK (.bl false))) sNil)))
    (sRet (eK (.bl true))))
def F_law : FN := mkF 1 4 B_law
end K59
end
section
namespace K59
open PySem PySem.Spec L2 Dn PyProof.Rows
abbrev top (i : Nat) : Stmt := PySem.Challenge.pw_whotaughtwhom_k59_whole_ranks_of_heirs_g.main.body.getD i (.Pass ⟨0, 0, 0, 0⟩)
section
variable {P : Program} {w : World} {K : PySem.W.Frag} {mg : Str → Option Value} {base : Heap} {f : Addr} {fd : FuncData}
theorem sc_is_integer : FnScope ["value"] ["value"] (defScope (top 10)) := ⟨rfl, rfl, rfl, by decide +kernel, rfl, by decide +kernel, by decide +kernel⟩
theorem ok_is_integer (F : FunD K "is_integer" "is_integer" (defArgs (top 10)) (defBody (top 10)) (defScope (top 10)) [] [] f fd) (hm : mg "is_integer" = some (.ref f)) (fr : Fr mg) : Has P w K mg base 1 "is_integer" F_is_integer := by
  have nd := sc_is_integer.nd
  refine hasF F hm (F.bindsN (ps := ["value"]) fun _ _ _ _ _ _ us hl => match us, hl with | [_], _ => rfl) sc_is_integer rfl rfl fun cd A fr_ s H E room hgd pin => ?_
  exact (dss_one (ds_ret (de_and (de_isi (do_v (pv 0)) rfl fr.isinstance rfl fr.int rfl) (de_one (de_not (de_isi (do_v (pv 0)) rfl fr.isinstance rfl fr.bool rfl))))))
theorem sc_is_between : FnScope ["value", "low", "high"] ["value", "low", "high"] (defScope (top 11)) := ⟨rfl, rfl, rfl, by decide +kernel, rfl, by decide +kernel, by decide +kernel⟩
theorem ok_is_between (F : FunD K "is_between" "is_between" (defArgs (top 11)) (defBody (top 11)) (defScope (top 11)) [] [] f fd) (hm : mg "is_between" = some (.ref f)) (fr : Fr mg) (h_is_integer : Has P w K mg base 1 "is_integer" F_is_integer) : Has P w K mg base 2 "is_between" F_is_between := by
  have nd := sc_is_between.nd
  refine hasF F hm (F.bindsN (ps := ["value", "low", "high"]) fun _ _ _ _ _ _ us hl => match us, hl with | [_, _, _], _ => rfl) sc_is_between rfl rfl fun cd A fr_ s H E room hgd pin => ?_
  exact (dss_one (ds_ret (de_and (de_callN h_is_integer room hgd rfl (dos_cons (do_v (pv 0)) dos_nil)) (de_one (de_chain op_le opd_le op_le opd_le (do_v (pv 1)) (do_v (pv 0)) (do_v (pv 2)))))))
theorem sc_are_between : FnScope ["value", "low", "high", "one"] ["value", "low", "high"] (defScope (top 12)) := ⟨rfl, rfl, rfl, by decide +kernel, rfl, by decide +kernel, by decide +kernel⟩
theorem ok_are_between (F : FunD K "are_between" "are_between" (defArgs (top 12)) (defBody (top 12)) (defScope (top 12)) [] [] f fd) (hm : mg "are_between" = some (.ref f)) (fr : Fr mg) (h_is_between : Has P w K mg base 2 "is_between" F_is_between) : Has P w K mg base 3 "are_between" F_are_between := by
  have nd := sc_are_between.nd
  refine hasF F hm (F.bindsN (ps := ["value", "low", "high"]) fun _ _ _ _ _ _ us hl => match us, hl with | [_, _, _], _ => rfl) sc_are_between rfl rfl fun cd A fr_ s H E room hgd pin => ?_
  exact (dss_one (ds_ret (de_and (de_isi (do_v (pv 0)) rfl fr.isinstance rfl fr.tuple rfl) (de_one (de_callB (cr_all rfl) cad_all rfl fr.all boot_all (dos_cons (do_e (de_comp (own := [("one", 3)]) (sl := (sl1 0)) rfl nd (blkOk_by (by kernel_rfl)) (by decide) (di_seq (do_v (pv 0)) (tkin_v in_sl1)) (fun _ _ _ _ _ => (dg_name nd rfl (.inl rfl))) (fun _ _ _ _ _ => dts_nil) (fun _ _ _ _ _ => (de_callN h_is_between room hgd rfl (dos_cons (do_v (pv 3)) (dos_cons (do_v (pv 1)) (dos_cons (do_v (pv 2)) dos_nil))))))) dos_nil))))))
theorem sc_check_chairs : FnScope ["chairs"] ["chairs"] (defScope (top 21)) := ⟨rfl, rfl, rfl, by decide +kernel, rfl, by decide +kernel, by decide +kernel⟩
theorem ok_check_chairs (F : FunD K "check_chairs" "check_chairs" (defArgs (top 21)) (defBody (top 21)) (defScope (top 21)) [] [] f fd) (hm : mg "check_chairs" = some (.ref f)) (fr : Fr mg) (h_is_between : Has P w K mg base 2 "is_between" F_is_between) (c_MOST_CHAIRS : ∃ t, mg "MOST_CHAIRS" = some (.int 6 t)) : Has P w K mg base 3 "check_chairs" F_check_chairs := by
  have nd := sc_check_chairs.nd
  refine hasF F hm (F.bindsN (ps := ["chairs"]) fun _ _ _ _ _ _ us hl => match us, hl with | [_], _ => rfl) sc_check_chairs rfl rfl fun cd A fr_ s H E room hgd pin => ?_
  exact (dss_one (ds_if (dt_not (dt_val (de_callN h_is_between room hgd rfl (dos_cons (do_v (pv 0)) (dos_cons (do_e de_int) (dos_cons (do_e (de_globI rfl c_MOST_CHAIRS)) dos_nil)))))) (dss_one ds_never) dss_nil))
theorem sc_check_old : FnScope ["most", "old"] ["most", "old"] (defScope (top 22)) := ⟨rfl, rfl, rfl, by decide +kernel, rfl, by decide +kernel, by decide +kernel⟩
theorem ok_check_old (F : FunD K "check_old" "check_old" (defArgs (top 22)) (defBody (top 22)) (defScope (top 22)) [] [] f fd) (hm : mg "check_old" = some (.ref f)) (fr : Fr mg) (h_are_between : Has P w K mg base 3 "are_between" F_are_between) (c_LAST : ∃ t, mg "LAST" = some (.int 60 t)) : Has P w K mg base 4 "check_old" F_check_old := by
  have nd := sc_check_old.nd
  refine hasF F hm (F.bindsN (ps := ["most", "old"]) fun _ _ _ _ _ _ us hl => match us, hl with | [_, _], _ => rfl) sc_check_old rfl rfl fun cd A fr_ s H E room hgd pin => ?_
  exact (dss_one (ds_if (PW.pt (dw_or (dt_not (dt_val (de_callN h_are_between room hgd rfl (dos_cons (do_v (pv 1)) (dos_cons (do_e de_int) (dos_cons (do_e (de_globI rfl c_LAST)) dos_nil)))))) (dw_or (dt_cmp op_gt opd_gt (do_e (de_callB call_len cad_len rfl fr.len boot_len (dos_cons (do_v (pv 1)) dos_nil))) (do_v (pv 0)) rfl) (dw_or1 (dt_cmp (op_neD (room_hu4 room)) opd_ne (do_e (de_callTy call_list_of cad_lstOf rfl fr.list boot_list (dos_cons (do_v (pv 1)) dos_nil))) (do_e (de_callB cr_sortedIT cad_sort2 rfl fr.sorted boot_sorted (dos_cons (do_v (pv 1)) dos_nil))) rfl))))) (dss_one ds_never) dss_nil))
theorem sc_is_heir : FnScope ["value"] ["value"] (defScope (top 23)) := ⟨rfl, rfl, rfl, by decide +kernel, rfl, by decide +kernel, by decide +kernel⟩
theorem ok_is_heir (F : FunD K "is_heir" "is_heir" (defArgs (top 23)) (defBody (top 23)) (defScope (top 23)) [] [] f fd) (hm : mg "is_heir" = some (.ref f)) (fr : Fr mg) (h_is_between : Has P w K mg base 2 "is_between" F_is_between) (c_MOST_ENDED : ∃ t, mg "MOST_ENDED" = some (.int 40 t)) (c_MOST_LIFE : ∃ t, mg "MOST_LIFE" = some (.int 40 t)) (c_MOST_WAIT : ∃ t, mg "MOST_WAIT" = some (.int 10 t)) (c_THREE : ∃ t, mg "THREE" = some (.int 3 t)) : Has P w K mg base 3 "is_heir" F_is_heir := by
  have nd := sc_is_heir.nd
  refine hasF F hm (F.bindsN (ps := ["value"]) fun _ _ _ _ _ _ us hl => match us, hl with | [_], _ => rfl) sc_is_heir rfl rfl fun cd A fr_ s H E room hgd pin => ?_
  exact (dss_cons (ds_if (PW.pt (dw_or (dt_not (dt_val (de_isi (do_v (pv 0)) rfl fr.isinstance rfl fr.tuple rfl))) (dw_or (dt_cmp (op_neD (room_hu4 room)) opd_ne (do_e (de_callB call_len cad_len rfl fr.len boot_len (dos_cons (do_v (pv 0)) dos_nil))) (do_e (de_globI rfl c_THREE)) rfl) (dw_or1 (dt_not (dt_val (de_callN h_is_between room hgd rfl (dos_cons (do_e (de_ix (ix_2 (room_hu room)) opd_ix2 (do_v (pv 0)) (do_e de_int) (fun _ _ => rfl))) (dos_cons (do_e de_int) (dos_cons (do_e (de_globI rfl c_MOST_ENDED)) dos_nil)))))))))) (dss_one (ds_ret de_bl)) dss_nil)
    (dss_one (ds_ret (de_and (de_callN h_is_between room hgd rfl (dos_cons (do_e (de_ix (ix_2 (room_hu room)) opd_ix2 (do_v (pv 0)) (do_e de_int) (fun _ _ => rfl))) (dos_cons (do_e de_int) (dos_cons (do_e (de_globI rfl c_MOST_WAIT)) dos_nil)))) (de_one (de_callN h_is_between room hgd rfl (dos_cons (do_e (de_ix (ix_2 (room_hu room)) opd_ix2 (do_v (pv 0)) (do_e (de_un un_neg und_neg (do_e de_int))) (fun _ _ => rfl))) (dos_cons (do_e de_int) (dos_cons (do_e (de_globI rfl c_MOST_LIFE)) dos_nil)))))))))
theorem sc_check_heirs : FnScope ["heirs", "heir"] ["heirs"] (defScope (top 24)) := ⟨rfl, rfl, rfl, by decide +kernel, rfl, by decide +kernel, by decide +kernel⟩
theorem ok_check_heirs (F : FunD K "check_heirs" "check_heirs" (defArgs (top 24)) (defBody (top 24)) (defScope (top 24)) [] [] f fd) (hm : mg "check_heirs" = some (.ref f)) (fr : Fr mg) (h_is_heir : Has P w K mg base 3 "is_heir" F_is_heir) (c_MOST_HEIRS : ∃ t, mg "MOST_HEIRS" = some (.int 10 t)) : Has P w K mg base 4 "check_heirs" F_check_heirs := by
  have nd := sc_check_heirs.nd
  refine hasF F hm (F.bindsN (ps := ["heirs"]) fun _ _ _ _ _ _ us hl => match us, hl with | [_], _ => rfl) sc_check_heirs rfl rfl fun cd A fr_ s H E room hgd pin => ?_
  exact (dss_one (ds_if (PW.pt (dw_or (dt_not (dt_val (de_isi (do_v (pv 0)) rfl fr.isinstance rfl fr.tuple rfl))) (dw_or (dt_cmp op_gt opd_gt (do_e (de_callB call_len cad_len rfl fr.len boot_len (dos_cons (do_v (pv 0)) dos_nil))) (do_e (de_globI rfl c_MOST_HEIRS)) rfl) (dw_or1 (dt_not (dt_val (de_callB (cr_all rfl) cad_all rfl fr.all boot_all (dos_cons (do_e (de_comp (own := [("heir", 1)]) (sl := (sl1 0)) rfl nd (blkOk_by (by kernel_rfl)) (by decide) (di_seq (do_v (pv 0)) (tkin_v in_sl1)) (fun _ _ _ _ _ => (dg_name nd rfl (.inl rfl))) (fun _ _ _ _ _ => dts_nil) (fun _ _ _ _ _ => (de_callN h_is_heir room hgd rfl (dos_cons (do_v (pv 1)) dos_nil))))) dos_nil)))))))) (dss_one ds_never) dss_nil))
theorem sc_is_rank : FnScope ["heirs", "value"] ["heirs", "value"] (defScope (top 25)) := ⟨rfl, rfl, rfl, by decide +kernel, rfl, by decide +kernel, by decide +kernel⟩
theorem ok_is_rank (F : FunD K "is_rank" "is_rank" (defArgs (top 25)) (defBody (top 25)) (defScope (top 25)) [] [] f fd) (hm : mg "is_rank" = some (.ref f)) (fr : Fr mg) (h_are_between : Has P w K mg base 3 "are_between" F_are_between) : Has P w K mg base 4 "is_rank" F_is_rank := by
  have nd := sc_is_rank.nd
  refine hasF F hm (F.bindsN (ps := ["heirs", "value"]) fun _ _ _ _ _ _ us hl => match us, hl with | [_, _], _ => rfl) sc_is_rank rfl rfl fun cd A fr_ s H E room hgd pin => ?_
  exact (dss_one (ds_ret (de_and (de_callN h_are_between room hgd rfl (dos_cons (do_v (pv 1)) (dos_cons (do_e de_int) (dos_cons (do_e (de_op op_sub opd_sub (do_e (de_callB call_len cad_len rfl fr.len boot_len (dos_cons (do_v (pv 0)) dos_nil))) (do_e de_int))) dos_nil)))) (de_one (de_cmp (op_eqD (room_hu4 room)) opd_eq (do_e (de_callB cr_sortedIT cad_sort2 rfl fr.sorted boot_sorted (dos_cons (do_v (pv 1)) dos_nil))) (do_e (de_listRg1 rfl rfl fr.list rfl fr.range (do_e (de_callB call_len cad_len rfl fr.len boot_len (dos_cons (do_v (pv 0)) dos_nil))))) rfl)))))
theorem sc_check_town : FnScope ["chairs", "old", "heirs"] ["chairs", "old", "heirs"] (defScope (top 26)) := ⟨rfl, rfl, rfl, by decide +kernel, rfl, by decide +kernel, by decide +kernel⟩
theorem ok_check_town (F : FunD K "check_town" "check_town" (defArgs (top 26)) (defBody (top 26)) (defScope (top 26)) [] [] f fd) (hm : mg "check_town" = some (.ref f)) (fr : Fr mg) (h_check_chairs : Has P w K mg base 3 "check_chairs" F_check_chairs) (h_check_heirs : Has P w K mg base 4 "check_heirs" F_check_heirs) (h_check_old : Has P w K mg base 4 "check_old" F_check_old) : Has P w K mg base 5 "check_town" F_check_town := by
  have nd := sc_check_town.nd
  refine hasF F hm (F.bindsN (ps := ["chairs", "old", "heirs"]) fun _ _ _ _ _ _ us hl => match us, hl with | [_, _, _], _ => rfl) sc_check_town rfl rfl fun cd A fr_ s H E room hgd pin => ?_
  exact (dss_cons (ds_expr (de_callN h_check_chairs room hgd rfl (dos_cons (do_v (pv 0)) dos_nil)))
    (dss_cons (ds_expr (de_callN h_check_old room hgd rfl (dos_cons (do_v (pv 0)) (dos_cons (do_v (pv 1)) dos_nil))))
    (dss_one (ds_expr (de_callN h_check_heirs room hgd rfl (dos_cons (do_v (pv 2)) dos_nil))))))
theorem sc_check_ranked : FnScope ["chairs", "old", "heirs", "rank"] ["chairs", "old", "heirs", "rank"] (defScope (top 27)) := ⟨rfl, rfl, rfl, by decide +kernel, rfl, by decide +kernel, by decide +kernel⟩
theorem ok_check_ranked (F : FunD K "check_ranked" "check_ranked" (defArgs (top 27)) (defBody (top 27)) (defScope (top 27)) [] [] f fd) (hm : mg "check_ranked" = some (.ref f)) (fr : Fr mg) (h_check_town : Has P w K mg base 5 "check_town" F_check_town) (h_is_rank : Has P w K mg base 4 "is_rank" F_is_rank) : Has P w K mg base 6 "check_ranked" F_check_ranked := by
  have nd := sc_check_ranked.nd
  refine hasF F hm (F.bindsN (ps := ["chairs", "old", "heirs", "rank"]) fun _ _ _ _ _ _ us hl => match us, hl with | [_, _, _, _], _ => rfl) sc_check_ranked rfl rfl fun cd A fr_ s H E room hgd pin => ?_
  exact (dss_cons (ds_expr (de_callN h_check_town room hgd rfl (dos_cons (do_v (pv 0)) (dos_cons (do_v (pv 1)) (dos_cons (do_v (pv 2)) dos_nil)))))
    (dss_one (ds_if (dt_not (dt_val (de_callN h_is_rank room hgd rfl (dos_cons (do_v (pv 2)) (dos_cons (do_v (pv 3)) dos_nil))))) (dss_one ds_never) dss_nil)))
theorem sc_waited_from : FnScope ["heir"] ["heir"] (defScope (top 28)) := ⟨rfl, rfl, rfl, by decide +kernel, rfl, by decide +kernel, by decide +kernel⟩
theorem ok_waited_from (F : FunD K "waited_from" "waited_from" (defArgs (top 28)) (defBody (top 28)) (defScope (top 28)) [] [] f fd) (hm : mg "waited_from" = some (.ref f)) (fr : Fr mg) : Has P w K mg base 1 "waited_from" F_waited_from := by
  have nd := sc_waited_from.nd
  refine hasF F hm (F.bindsN (ps := ["heir"]) fun _ _ _ _ _ _ us hl => match us, hl with | [_], _ => rfl) sc_waited_from rfl rfl fun cd A fr_ s H E room hgd pin => ?_
  exact (dss_one (ds_ret (de_op Dn.op_addX opd_add (do_e (de_ix (ix_2 (room_hu room)) opd_ix2 (do_v (pv 0)) (do_e de_int) (fun _ _ => rfl))) (do_e (de_ix (ix_2 (room_hu room)) opd_ix2 (do_v (pv 0)) (do_e de_int) (fun _ _ => rfl))))))
theorem sc_run_of : FnScope ["chairs", "old", "heirs", "rank", "until", "given", "found", "year", "free", "ready", "chair", "heir"] ["chairs", "old", "heirs", "rank"] (defScope (top 29)) := ⟨rfl, rfl, rfl, by decide +kernel, rfl, by decide +kernel, by decide +kernel⟩
theorem ok_run_of (F : FunD K "run_of" "run_of" (defArgs (top 29)) (defBody (top 29)) (defScope (top 29)) [] [] f fd) (hm : mg "run_of" = some (.ref f)) (fr : Fr mg) (h_waited_from : Has P w K mg base 1 "waited_from" F_waited_from) (c_LAST : ∃ t, mg "LAST" = some (.int 60 t)) : Has P w K mg base 2 "run_of" F_run_of := by
  have nd := sc_run_of.nd
  refine hasF F hm (F.bindsN (ps := ["chairs", "old", "heirs", "rank"]) fun _ _ _ _ _ _ us hl => match us, hl with | [_, _, _, _], _ => rfl) sc_run_of rfl rfl fun cd A fr_ s H E room hgd pin => ?_
  exact (dss_cons (ds_asg (de_tup (dos_cons (do_e (de_lst (dos_star (do_v (pv 1)) (dos_star (do_e (de_op Dn.op_mulX opd_mul (do_e (de_lst (dos_cons (do_e de_int) dos_nil))) (do_e (de_op op_sub opd_sub (do_v (pv 0)) (do_e (de_callB call_len cad_len rfl fr.len boot_len (dos_cons (do_v (pv 1)) dos_nil))))))) dos_nil)))) (dos_cons (do_e de_dict0) (dos_cons (do_e (de_lst dos_nil)) dos_nil)))) (dg_tup rfl (dgs_cons (dg_name nd rfl (.inr rfl)) (dgs_cons (dg_name nd rfl (.inr rfl)) (dgs_cons (dg_name nd rfl (.inl rfl)) dgs_nil)))))
    (dss_cons (ds_for (sl := sl0) PassesOwn.never rfl (di_range1 rfl fr.range (dos_cons (do_e (de_op Dn.op_addX opd_add (do_e (de_globI rfl c_LAST)) (do_e de_int))) dos_nil)) (dg_name nd rfl (.inr rfl)) (dss_cons (ds_setLc (own := [("chair", 10)]) (sl := sl0) rfl nd rfl rfl rfl (blkOk_by (by kernel_rfl)) (by decide) (di_range1 rfl fr.range (dos_cons (do_v (pv 0)) dos_nil)) (fun _ _ _ _ _ => (dg_name nd rfl (.inl rfl))) (fun _ _ _ _ _ => (dts_one (dt_cmp op_le opd_le (do_e (de_ix (ix_2 (room_hu room)) opd_ix2 (do_v (pv 4)) (do_v (pv 10)) (fun _ _ => rfl))) (do_v (pv 7)) rfl))) (fun _ _ _ _ _ => (de_v (pv 10))))
    (dss_cons (ds_setLc (own := [("heir", 11)]) (sl := (sl1 3)) rfl nd rfl rfl rfl (blkOk_by (by kernel_rfl)) (by decide) (di_seq (do_v (pv 3)) (tkin_v in_sl1)) (fun _ _ _ _ _ => (dg_name nd rfl (.inl rfl))) (fun _ _ _ _ _ => (dts_one (PW.pt (dw_and (dt_cmp (op_notIn2 (room_hu room)) opd_notIn2 (do_v (pv 11)) (do_v (pv 5)) rfl) (dw_and1 (dt_cmp op_le opd_le (do_e (de_callN h_waited_from room hgd rfl (dos_cons (do_e (de_ix (ix_2 (room_hu room)) opd_ix2 (do_v (pv 2)) (do_v (pv 11)) (fun _ _ => rfl))) dos_nil))) (do_v (pv 7)) rfl)))))) (fun _ _ _ _ _ => (de_v (pv 11))))
    (dss_one (ds_for (sl := (sl2 8 9)) PassesOwn.never rfl (di_zip rfl fr.zip (dos_cons (do_v (pv 8)) (dos_cons (do_v (pv 9)) dos_nil)) (tkins_cons (tkin_v in_sl2a) (tkins_cons (tkin_v in_sl2b) tkins_nil))) (dg_tup rfl (dgs_cons (dg_name nd rfl (.inl rfl)) (dgs_cons (dg_name nd rfl (.inl rfl)) dgs_nil))) (dss_cons (ds_asg (de_op Dn.op_addX opd_add (do_v (pv 7)) (do_e (de_ix (ix_2 (room_hu room)) opd_ix2 (do_e (de_ix (ix_2 (room_hu room)) opd_ix2 (do_v (pv 2)) (do_v (pv 11)) (fun _ _ => rfl))) (do_e (de_un un_neg und_neg (do_e de_int))) (fun _ _ => rfl)))) (dg_set (pv 4) (de_v (pv 10))))
    (dss_cons (ds_asg (de_v (pv 7)) (dg_setD (room_hu1 room) (pv 5) (de_v (pv 11))))
    (dss_one (ds_expr (de_mut1 PySem.F.slot_list_append PySem.F.type_list_append mt_append mud_app (pv 6) (de_tup (dos_cons (do_e (de_v (pv 7))) (dos_cons (do_e (de_v (pv 10))) (dos_cons (do_e (de_v (pv 11))) dos_nil))))))))))))))
    (dss_one (ds_ret (de_v (pv 6))))))
theorem sc_given_by : FnScope ["chairs", "old", "heirs", "rank", "known", "heir", "year", "chair"] ["chairs", "old", "heirs", "rank"] (defScope (top 30)) := ⟨rfl, rfl, rfl, by decide +kernel, rfl, by decide +kernel, by decide +kernel⟩
theorem ok_given_by (F : FunD K "given_by" "given_by" (defArgs (top 30)) (defBody (top 30)) (defScope (top 30)) [] [] f fd) (hm : mg "given_by" = some (.ref f)) (fr : Fr mg) (h_run_of : Has P w K mg base 2 "run_of" F_run_of) : Has P w K mg base 3 "given_by" F_given_by := by
  have nd := sc_given_by.nd
  refine hasF F hm (F.bindsN (ps := ["chairs", "old", "heirs", "rank"]) fun _ _ _ _ _ _ us hl => match us, hl with | [_, _, _, _], _ => rfl) sc_given_by rfl rfl fun cd A fr_ s H E room hgd pin => ?_
  exact (dss_cons (ds_set nd rfl (.inr rfl) (de_callTy (call_dictP rfl) cad_dict rfl fr.dict boot_dict (dos_cons (do_e (de_comp (own := [("year", 6), ("chair", 7), ("heir", 5)]) (sl := sl0) rfl nd (blkOk_by (by kernel_rfl)) (by decide) (di_seq (do_e (de_callN h_run_of room hgd rfl (dos_cons (do_v (pv 0)) (dos_cons (do_v (pv 1)) (dos_cons (do_v (pv 2)) (dos_cons (do_v (pv 3)) dos_nil)))))) tkin_e) (fun _ _ _ _ _ => (dg_tup rfl (dgs_cons (dg_name nd rfl (.inl rfl)) (dgs_cons (dg_name nd rfl (.inl rfl)) (dgs_cons (dg_name nd rfl (.inl rfl)) dgs_nil))))) (fun _ _ _ _ _ => dts_nil) (fun _ _ _ _ _ => (de_tup (dos_cons (do_e (de_v (pv 5))) (dos_cons (do_e (de_v (pv 6))) dos_nil)))))) dos_nil)))
    (dss_one (ds_ret (de_comp (own := [("heir", 5)]) (sl := sl0) rfl nd (blkOk_by (by kernel_rfl)) (by decide) (di_range1 rfl fr.range (dos_cons (do_e (de_callB call_len cad_len rfl fr.len boot_len (dos_cons (do_v (pv 2)) dos_nil))) dos_nil)) (fun _ _ _ _ _ => (dg_name nd rfl (.inl rfl))) (fun _ _ _ _ _ => dts_nil) (fun _ _ _ _ _ => (de_md PySem.F.slot_dict_get PySem.F.type_dict_get (mt_dget (room_hu1 room)) med_dget (do_v (pv 4)) (dos_cons (do_v (pv 5)) dos_nil)))))))
theorem sc_given_in : FnScope ["chairs", "old", "heirs", "rank"] ["chairs", "old", "heirs", "rank"] (defScope (top 31)) := ⟨rfl, rfl, rfl, by decide +kernel, rfl, by decide +kernel, by decide +kernel⟩
theorem ok_given_in (F : FunD K "given_in" "given_in" (defArgs (top 31)) (defBody (top 31)) (defScope (top 31)) [] [] f fd) (hm : mg "given_in" = some (.ref f)) (fr : Fr mg) (h_check_ranked : Has P w K mg base 6 "check_ranked" F_check_ranked) (h_given_by : Has P w K mg base 3 "given_by" F_given_by) : Has P w K mg base 7 "given_in" F_given_in := by
  have nd := sc_given_in.nd
  refine hasF F hm (F.bindsN (ps := ["chairs", "old", "heirs", "rank"]) fun _ _ _ _ _ _ us hl => match us, hl with | [_, _, _, _], _ => rfl) sc_given_in rfl rfl fun cd A fr_ s H E room hgd pin => ?_
  exact (dss_cons (ds_expr (de_callN h_check_ranked room hgd rfl (dos_cons (do_v (pv 0)) (dos_cons (do_v (pv 1)) (dos_cons (do_v (pv 2)) (dos_cons (do_v (pv 3)) dos_nil))))))
    (dss_one (ds_ret (de_callTy call_tupB cad_tupOf rfl fr.tuple boot_tuple (dos_cons (do_e (de_callN h_given_by room hgd rfl (dos_cons (do_v (pv 0)) (dos_cons (do_v (pv 1)) (dos_cons (do_v (pv 2)) (dos_cons (do_v (pv 3)) dos_nil)))))) dos_nil)))))
theorem sc_waits_by : FnScope ["heirs", "given", "rows", "heir", "year"] ["heirs", "given"] (defScope (top 33)) := ⟨rfl, rfl, rfl, by decide +kernel, rfl, by decide +kernel, by decide +kernel⟩
theorem ok_waits_by (F : FunD K "waits_by" "waits_by" (defArgs (top 33)) (defBody (top 33)) (defScope (top 33)) [] [] f fd) (hm : mg "waits_by" = some (.ref f)) (fr : Fr mg) (h_waited_from : Has P w K mg base 1 "waited_from" F_waited_from) : Has P w K mg base 2 "waits_by" F_waits_by := by
  have nd := sc_waits_by.nd
  refine hasF F hm (F.bindsN (ps := ["heirs", "given"]) fun _ _ _ _ _ _ us hl => match us, hl with | [_, _], _ => rfl) sc_waits_by rfl rfl fun cd A fr_ s H E room hgd pin => ?_
  exact (dss_cons (ds_set nd rfl (.inl rfl) (de_lz rfl rfl fr.list rfl fr.zip (dos_cons (do_v (pv 0)) (dos_cons (do_v (pv 1)) dos_nil))))
    (dss_one (ds_ret (de_comp (own := [("heir", 3), ("year", 4)]) (sl := (sl1 2)) rfl nd (blkOk_by (by kernel_rfl)) (by decide) (di_seq (do_v (pv 2)) (tkin_v in_sl1)) (fun _ _ _ _ _ => (dg_tup rfl (dgs_cons (dg_name nd rfl (.inl rfl)) (dgs_cons (dg_name nd rfl (.inl rfl)) dgs_nil)))) (fun _ _ _ _ _ => dts_nil) (fun _ _ _ _ _ => (de_if (dt_cmp op_isN opd_isN (do_v (pv 4)) (do_e de_non) rfl) de_non (de_op op_sub opd_sub (do_v (pv 4)) (do_e (de_callN h_waited_from room hgd rfl (dos_cons (do_v (pv 3)) dos_nil))))))))))
theorem sc_longest_wait : FnScope ["chairs", "old", "heirs", "rank", "waits"] ["chairs", "old", "heirs", "rank"] (defScope (top 34)) := ⟨rfl, rfl, rfl, by decide +kernel, rfl, by decide +kernel, by decide +kernel⟩
theorem ok_longest_wait (F : FunD K "longest_wait" "longest_wait" (defArgs (top 34)) (defBody (top 34)) (defScope (top 34)) [] [] f fd) (hm : mg "longest_wait" = some (.ref f)) (fr : Fr mg) (h_check_ranked : Has P w K mg base 6 "check_ranked" F_check_ranked) (h_given_by : Has P w K mg base 3 "given_by" F_given_by) (h_waits_by : Has P w K mg base 2 "waits_by" F_waits_by) : Has P w K mg base 7 "longest_wait" F_longest_wait := by
  have nd := sc_longest_wait.nd
  refine hasF F hm (F.bindsN (ps := ["chairs", "old", "heirs", "rank"]) fun _ _ _ _ _ _ us hl => match us, hl with | [_, _, _, _], _ => rfl) sc_longest_wait rfl rfl fun cd A fr_ s H E room hgd pin => ?_
  exact (dss_cons (ds_expr (de_callN h_check_ranked room hgd rfl (dos_cons (do_v (pv 0)) (dos_cons (do_v (pv 1)) (dos_cons (do_v (pv 2)) (dos_cons (do_v (pv 3)) dos_nil))))))
    (dss_cons (ds_set nd rfl (.inl rfl) (de_callN h_waits_by room hgd rfl (dos_cons (do_v (pv 2)) (dos_cons (do_e (de_callN h_given_by room hgd rfl (dos_cons (do_v (pv 0)) (dos_cons (do_v (pv 1)) (dos_cons (do_v (pv 2)) (dos_cons (do_v (pv 3)) dos_nil)))))) dos_nil))))
    (dss_cons (ds_if (dt_cmp (op_eqD (room_hu4 room)) opd_eq (do_v (pv 4)) (do_e (de_lst dos_nil)) rfl) (dss_one (ds_ret de_non)) dss_nil)
    (dss_cons (ds_if (dt_cmp (op_in2 (room_hu room)) opd_in2 (do_e de_non) (do_v (pv 4)) rfl) (dss_one (ds_ret (de_tup (dos_cons (do_e de_non) (dos_cons (do_e (de_ml PySem.F.slot_list_index PySem.F.type_list_index (mt_indexD (room_hu room)) med_lidx (do_v (pv 4)) (dos_cons (do_e de_non) dos_nil))) dos_nil))))) dss_nil)
    (dss_one (ds_ret (de_tup (dos_cons (do_e (de_callB (cr_max rfl) cad_max rfl fr.max boot_max (dos_cons (do_v (pv 4)) dos_nil))) (dos_cons (do_e (de_ml PySem.F.slot_list_index PySem.F.type_list_index (mt_indexD (room_hu room)) med_lidx (do_v (pv 4)) (dos_cons (do_e (de_callB (cr_max rfl) cad_max rfl fr.max boot_max (dos_cons (do_v (pv 4)) dos_nil))) dos_nil))) dos_nil)))))))))
theorem sc_check_few : FnScope ["chairs", "old", "heirs"] ["chairs", "old", "heirs"] (defScope (top 40)) := ⟨rfl, rfl, rfl, by decide +kernel, rfl, by decide +kernel, by decide +kernel⟩
theorem ok_check_few (F : FunD K "check_few" "check_few" (defArgs (top 40)) (defBody (top 40)) (defScope (top 40)) [] [] f fd) (hm : mg "check_few" = some (.ref f)) (fr : Fr mg) (h_check_town : Has P w K mg base 5 "check_town" F_check_town) (c_MOST_RANKED : ∃ t, mg "MOST_RANKED" = some (.int 5 t)) : Has P w K mg base 6 "check_few" F_check_few := by
  have nd := sc_check_few.nd
  refine hasF F hm (F.bindsN (ps := ["chairs", "old", "heirs"]) fun _ _ _ _ _ _ us hl => match us, hl with | [_, _, _], _ => rfl) sc_check_few rfl rfl fun cd A fr_ s H E room hgd pin => ?_
  exact (dss_cons (ds_expr (de_callN h_check_town room hgd rfl (dos_cons (do_v (pv 0)) (dos_cons (do_v (pv 1)) (dos_cons (do_v (pv 2)) dos_nil)))))
    (dss_one (ds_if (dt_cmp op_gt opd_gt (do_e (de_callB call_len cad_len rfl fr.len boot_len (dos_cons (do_v (pv 2)) dos_nil))) (do_e (de_globI rfl c_MOST_RANKED)) rfl) (dss_one ds_never) dss_nil)))
theorem sc_check_heir : FnScope ["chairs", "old", "heirs", "heir"] ["chairs", "old", "heirs", "heir"] (defScope (top 41)) := ⟨rfl, rfl, rfl, by decide +kernel, rfl, by decide +kernel, by decide +kernel⟩
theorem ok_check_heir (F : FunD K "check_heir" "check_heir" (defArgs (top 41)) (defBody (top 41)) (defScope (top 41)) [] [] f fd) (hm : mg "check_heir" = some (.ref f)) (fr : Fr mg) (h_check_town : Has P w K mg base 5 "check_town" F_check_town) (h_is_between : Has P w K mg base 2 "is_between" F_is_between) : Has P w K mg base 6 "check_heir" F_check_heir := by
  have nd := sc_check_heir.nd
  refine hasF F hm (F.bindsN (ps := ["chairs", "old", "heirs", "heir"]) fun _ _ _ _ _ _ us hl => match us, hl with | [_, _, _, _], _ => rfl) sc_check_heir rfl rfl fun cd A fr_ s H E room hgd pin => ?_
  exact (dss_cons (ds_expr (de_callN h_check_town room hgd rfl (dos_cons (do_v (pv 0)) (dos_cons (do_v (pv 1)) (dos_cons (do_v (pv 2)) dos_nil)))))
    (dss_one (ds_if (dt_not (dt_val (de_callN h_is_between room hgd rfl (dos_cons (do_v (pv 3)) (dos_cons (do_e de_int) (dos_cons (do_e (de_op op_sub opd_sub (do_e (de_callB call_len cad_len rfl fr.len boot_len (dos_cons (do_v (pv 2)) dos_nil))) (do_e de_int))) dos_nil)))))) (dss_one ds_never) dss_nil)))
theorem sc_check_heir_year : FnScope ["chairs", "old", "heirs", "heir", "year"] ["chairs", "old", "heirs", "heir", "year"] (defScope (top 42)) := ⟨rfl, rfl, rfl, by decide +kernel, rfl, by decide +kernel, by decide +kernel⟩
theorem ok_check_heir_year (F : FunD K "check_heir_year" "check_heir_year" (defArgs (top 42)) (defBody (top 42)) (defScope (top 42)) [] [] f fd) (hm : mg "check_heir_year" = some (.ref f)) (fr : Fr mg) (h_check_few : Has P w K mg base 6 "check_few" F_check_few) (h_check_heir : Has P w K mg base 6 "check_heir" F_check_heir) (h_is_between : Has P w K mg base 2 "is_between" F_is_between) (c_LAST : ∃ t, mg "LAST" = some (.int 60 t)) : Has P w K mg base 7 "check_heir_year" F_check_heir_year := by
  have nd := sc_check_heir_year.nd
  refine hasF F hm (F.bindsN (ps := ["chairs", "old", "heirs", "heir", "year"]) fun _ _ _ _ _ _ us hl => match us, hl with | [_, _, _, _, _], _ => rfl) sc_check_heir_year rfl rfl fun cd A fr_ s H E room hgd pin => ?_
  exact (dss_cons (ds_expr (de_callN h_check_heir room hgd rfl (dos_cons (do_v (pv 0)) (dos_cons (do_v (pv 1)) (dos_cons (do_v (pv 2)) (dos_cons (do_v (pv 3)) dos_nil))))))
    (dss_cons (ds_if (dt_not (dt_val (de_callN h_is_between room hgd rfl (dos_cons (do_v (pv 4)) (dos_cons (do_e de_int) (dos_cons (do_e (de_globI rfl c_LAST)) dos_nil)))))) (dss_one ds_never) dss_nil)
    (dss_one (ds_expr (de_callN h_check_few room hgd rfl (dos_cons (do_v (pv 0)) (dos_cons (do_v (pv 1)) (dos_cons (do_v (pv 2)) dos_nil))))))))
theorem sc_ranks_of : FnScope ["many", "found", "lap", "longer", "row", "heir"] ["many"] (defScope (top 43)) := ⟨rfl, rfl, rfl, by decide +kernel, rfl, by decide +kernel, by decide +kernel⟩
theorem ok_ranks_of (F : FunD K "ranks_of" "ranks_of" (defArgs (top 43)) (defBody (top 43)) (defScope (top 43)) [] [] f fd) (hm : mg "ranks_of" = some (.ref f)) (fr : Fr mg) : Has P w K mg base 1 "ranks_of" F_ranks_of := by
  have nd := sc_ranks_of.nd
  refine hasF F hm (F.bindsN (ps := ["many"]) fun _ _ _ _ _ _ us hl => match us, hl with | [_], _ => rfl) sc_ranks_of rfl rfl fun cd A fr_ s H E room hgd pin => ?_
  exact (dss_cons (ds_set nd rfl (.inl rfl) (de_lst (dos_cons (do_e (de_tup dos_nil)) dos_nil)))
    (dss_cons (ds_for (sl := sl0) PassesOwn.never rfl (di_range1 rfl fr.range (dos_cons (do_v (pv 0)) dos_nil)) (dg_name nd rfl (.inl rfl)) (dss_cons (ds_set nd rfl (.inl rfl) (de_lst dos_nil))
    (dss_cons (ds_for (sl := (sl1 1)) PassesOwn.never rfl (di_seq (do_v (pv 1)) (tkin_v in_sl1)) (dg_name nd rfl (.inr rfl)) (dss_one (ds_expr (de_mut1 PySem.F.slot_list_extend PySem.F.type_list_extend mt_extend mud_ext (pv 3) (de_comp (own := [("heir", 5)]) (sl := sl0) rfl nd (blkOk_by (by kernel_rfl)) (by decide) (di_range1 rfl fr.range (dos_cons (do_v (pv 0)) dos_nil)) (fun _ _ _ _ _ => (dg_name nd rfl (.inl rfl))) (fun _ _ _ _ _ => (dts_one (dt_cmp (op_notIn2 (room_hu room)) opd_notIn2 (do_v (pv 5)) (do_v (pv 4)) rfl))) (fun _ _ _ _ _ => (de_tup (dos_star (do_v (pv 4)) (dos_cons (do_e (de_v (pv 5))) dos_nil)))))))))
    (dss_one (ds_set nd rfl (.inl rfl) (de_v (pv 3)))))))
    (dss_one (ds_ret (de_v (pv 1))))))
theorem sc_years_of_all : FnScope ["chairs", "old", "heirs", "heir", "rows", "rank", "row"] ["chairs", "old", "heirs", "heir"] (defScope (top 44)) := ⟨rfl, rfl, rfl, by decide +kernel, rfl, by decide +kernel, by decide +kernel⟩
theorem ok_years_of_all (F : FunD K "years_of_all" "years_of_all" (defArgs (top 44)) (defBody (top 44)) (defScope (top 44)) [] [] f fd) (hm : mg "years_of_all" = some (.ref f)) (fr : Fr mg) (h_given_by : Has P w K mg base 3 "given_by" F_given_by) (h_ranks_of : Has P w K mg base 1 "ranks_of" F_ranks_of) : Has P w K mg base 4 "years_of_all" F_years_of_all := by
  have nd := sc_years_of_all.nd
  refine hasF F hm (F.bindsN (ps := ["chairs", "old", "heirs", "heir"]) fun _ _ _ _ _ _ us hl => match us, hl with | [_, _, _, _], _ => rfl) sc_years_of_all rfl rfl fun cd A fr_ s H E room hgd pin => ?_
  exact (dss_cons (ds_setLc (own := [("rank", 5)]) (sl := sl0) rfl nd rfl rfl rfl (blkOk_by (by kernel_rfl)) (by decide) (di_seq (do_e (de_callN h_ranks_of room hgd rfl (dos_cons (do_e (de_callB call_len cad_len rfl fr.len boot_len (dos_cons (do_v (pv 2)) dos_nil))) dos_nil))) tkin_e) (fun _ _ _ _ _ => (dg_name nd rfl (.inl rfl))) (fun _ _ _ _ _ => dts_nil) (fun _ _ _ _ _ => (de_tup (dos_cons (do_e (de_ix (ix_2 (room_hu room)) opd_ix2 (do_e (de_callN h_given_by room hgd rfl (dos_cons (do_v (pv 0)) (dos_cons (do_v (pv 1)) (dos_cons (do_v (pv 2)) (dos_cons (do_v (pv 5)) dos_nil)))))) (do_v (pv 3)) (fun _ _ => rfl))) (dos_cons (do_e (de_v (pv 5))) dos_nil)))))
    (dss_one (ds_ret (de_comp (own := [("row", 6)]) (sl := (sl1 4)) rfl nd (blkOk_by (by kernel_rfl)) (by decide) (di_seq (do_v (pv 4)) (tkin_v in_sl1)) (fun _ _ _ _ _ => (dg_name nd rfl (.inl rfl))) (fun _ _ _ _ _ => (dts_one (dt_cmp op_notN opd_isNotN (do_e (de_ix (ix_2 (room_hu room)) opd_ix2 (do_v (pv 6)) (do_e de_int) (fun _ _ => rfl))) (do_e de_non) rfl))) (fun _ _ _ _ _ => (de_v (pv 6)))))))
theorem sc_best_first : FnScope ["chairs", "old", "heirs", "heir", "rows"] ["chairs", "old", "heirs", "heir"] (defScope (top 45)) := ⟨rfl, rfl, rfl, by decide +kernel, rfl, by decide +kernel, by decide +kernel⟩
theorem ok_best_first (F : FunD K "best_first" "best_first" (defArgs (top 45)) (defBody (top 45)) (defScope (top 45)) [] [] f fd) (hm : mg "best_first" = some (.ref f)) (fr : Fr mg) (h_check_few : Has P w K mg base 6 "check_few" F_check_few) (h_check_heir : Has P w K mg base 6 "check_heir" F_check_heir) (h_years_of_all : Has P w K mg base 4 "years_of_all" F_years_of_all) : Has P w K mg base 7 "best_first" F_best_first := by
  have nd := sc_best_first.nd
  refine hasF F hm (F.bindsN (ps := ["chairs", "old", "heirs", "heir"]) fun _ _ _ _ _ _ us hl => match us, hl with | [_, _, _, _], _ => rfl) sc_best_first rfl rfl fun cd A fr_ s H E room hgd pin => ?_
  exact (dss_cons (ds_expr (de_callN h_check_heir room hgd rfl (dos_cons (do_v (pv 0)) (dos_cons (do_v (pv 1)) (dos_cons (do_v (pv 2)) (dos_cons (do_v (pv 3)) dos_nil))))))
    (dss_cons (ds_expr (de_callN h_check_few room hgd rfl (dos_cons (do_v (pv 0)) (dos_cons (do_v (pv 1)) (dos_cons (do_v (pv 2)) dos_nil)))))
    (dss_cons (ds_set nd rfl (.inl rfl) (de_callN h_years_of_all room hgd rfl (dos_cons (do_v (pv 0)) (dos_cons (do_v (pv 1)) (dos_cons (do_v (pv 2)) (dos_cons (do_v (pv 3)) dos_nil))))))
    (dss_one (ds_ret (de_if (dt_cmp (op_neD (room_hu4 room)) opd_ne (do_v (pv 4)) (do_e (de_lst dos_nil)) rfl) (de_ix (ix_2 (room_hu room)) opd_ix2 (do_e (de_callB (cr_minP rfl (room_hu room)) cad_minP rfl fr.min boot_min (dos_cons (do_v (pv 4)) dos_nil))) (do_e de_int) (fun _ _ => rfl)) de_non))))))
theorem sc_rank_by : FnScope ["chairs", "old", "heirs", "heir", "year", "fine", "its", "rank"] ["chairs", "old", "heirs", "heir", "year"] (defScope (top 46)) := ⟨rfl, rfl, rfl, by decide +kernel, rfl, by decide +kernel, by decide +kernel⟩
theorem ok_rank_by (F : FunD K "rank_by" "rank_by" (defArgs (top 46)) (defBody (top 46)) (defScope (top 46)) [] [] f fd) (hm : mg "rank_by" = some (.ref f)) (fr : Fr mg) (h_years_of_all : Has P w K mg base 4 "years_of_all" F_years_of_all) : Has P w K mg base 5 "rank_by" F_rank_by := by
  have nd := sc_rank_by.nd
  refine hasF F hm (F.bindsN (ps := ["chairs", "old", "heirs", "heir", "year"]) fun _ _ _ _ _ _ us hl => match us, hl with | [_, _, _, _, _], _ => rfl) sc_rank_by rfl rfl fun cd A fr_ s H E room hgd pin => ?_
  exact (dss_cons (ds_setLc (own := [("its", 6), ("rank", 7)]) (sl := sl0) rfl nd rfl rfl rfl (blkOk_by (by kernel_rfl)) (by decide) (di_seq (do_e (de_callN h_years_of_all room hgd rfl (dos_cons (do_v (pv 0)) (dos_cons (do_v (pv 1)) (dos_cons (do_v (pv 2)) (dos_cons (do_v (pv 3)) dos_nil)))))) tkin_e) (fun _ _ _ _ _ => (dg_tup rfl (dgs_cons (dg_name nd rfl (.inl rfl)) (dgs_cons (dg_name nd rfl (.inl rfl)) dgs_nil)))) (fun _ _ _ _ _ => (dts_one (dt_cmp op_le opd_le (do_v (pv 6)) (do_v (pv 4)) rfl))) (fun _ _ _ _ _ => (de_v (pv 7))))
    (dss_one (ds_ret (de_if (dt_cmp (op_neD (room_hu4 room)) opd_ne (do_v (pv 5)) (do_e (de_lst dos_nil)) rfl) (de_ix (ix_2 (room_hu room)) opd_ix2 (do_v (pv 5)) (do_e de_int) (fun _ _ => rfl)) de_non))))
theorem sc_rank_told : FnScope ["chairs", "old", "heirs", "heir", "year", "rank"] ["chairs", "old", "heirs", "heir", "year"] (defScope (top 47)) := ⟨rfl, rfl, rfl, by decide +kernel, rfl, by decide +kernel, by decide +kernel⟩
theorem ok_rank_told (F : FunD K "rank_told" "rank_told" (defArgs (top 47)) (defBody (top 47)) (defScope (top 47)) [] [] f fd) (hm : mg "rank_told" = some (.ref f)) (fr : Fr mg) (h_check_heir_year : Has P w K mg base 7 "check_heir_year" F_check_heir_year) (h_rank_by : Has P w K mg base 5 "rank_by" F_rank_by) (c_NONE : ∃ t, mg "NONE" = some (.str "none" t)) (c_RANK : ∃ t, mg "RANK" = some (.str "rank" t)) : Has P w K mg base 8 "rank_told" F_rank_told := by
  have nd := sc_rank_told.nd
  refine hasF F hm (F.bindsN (ps := ["chairs", "old", "heirs", "heir", "year"]) fun _ _ _ _ _ _ us hl => match us, hl with | [_, _, _, _, _], _ => rfl) sc_rank_told rfl rfl fun cd A fr_ s H E room hgd pin => ?_
  exact (dss_cons (ds_expr (de_callN h_check_heir_year room hgd rfl (dos_cons (do_v (pv 0)) (dos_cons (do_v (pv 1)) (dos_cons (do_v (pv 2)) (dos_cons (do_v (pv 3)) (dos_cons (do_v (pv 4)) dos_nil)))))))
    (dss_cons (ds_set nd rfl (.inl rfl) (de_callN h_rank_by room hgd rfl (dos_cons (do_v (pv 0)) (dos_cons (do_v (pv 1)) (dos_cons (do_v (pv 2)) (dos_cons (do_v (pv 3)) (dos_cons (do_v (pv 4)) dos_nil)))))))
    (dss_one (ds_ret (de_if (dt_cmp op_isN opd_isN (do_v (pv 5)) (do_e de_non) rfl) (de_tup (dos_cons (do_e (de_globS rfl c_NONE)) dos_nil)) (de_tup (dos_cons (do_e (de_globS rfl c_RANK)) (dos_cons (do_e (de_v (pv 5))) dos_nil))))))))
theorem sc_shows_rank : FnScope ["chairs", "old", "heirs", "heir", "year", "value", "its"] ["chairs", "old", "heirs", "heir", "year", "value"] (defScope (top 48)) := ⟨rfl, rfl, rfl, by decide +kernel, rfl, by decide +kernel, by decide +kernel⟩
theorem ok_shows_rank (F : FunD K "shows_rank" "shows_rank" (defArgs (top 48)) (defBody (top 48)) (defScope (top 48)) [] [] f fd) (hm : mg "shows_rank" = some (.ref f)) (fr : Fr mg) (h_check_heir_year : Has P w K mg base 7 "check_heir_year" F_check_heir_year) (h_given_by : Has P w K mg base 3 "given_by" F_given_by) (h_is_rank : Has P w K mg base 4 "is_rank" F_is_rank) (h_rank_by : Has P w K mg base 5 "rank_by" F_rank_by) (c_NONE : ∃ t, mg "NONE" = some (.str "none" t)) (c_RANK : ∃ t, mg "RANK" = some (.str "rank" t)) : Has P w K mg base 8 "shows_rank" F_shows_rank := by
  have nd := sc_shows_rank.nd
  refine hasF F hm (F.bindsN (ps := ["chairs", "old", "heirs", "heir", "year", "value"]) fun _ _ _ _ _ _ us hl => match us, hl with | [_, _, _, _, _, _], _ => rfl) sc_shows_rank rfl rfl fun cd A fr_ s H E room hgd pin => ?_
  exact (dss_cons (ds_expr (de_callN h_check_heir_year room hgd rfl (dos_cons (do_v (pv 0)) (dos_cons (do_v (pv 1)) (dos_cons (do_v (pv 2)) (dos_cons (do_v (pv 3)) (dos_cons (do_v (pv 4)) dos_nil)))))))
    (dss_cons (ds_if (PW.pt (dw_or (dt_not (dt_val (de_isi (do_v (pv 5)) rfl fr.isinstance rfl fr.tuple rfl))) (dw_or (dt_cmp (op_notIn2 (room_hu room)) opd_notIn2 (do_e (de_callB call_len cad_len rfl fr.len boot_len (dos_cons (do_v (pv 5)) dos_nil))) (do_e (de_tup (dos_cons (do_e de_int) (dos_cons (do_e de_int) dos_nil)))) rfl) (dw_or1 (dt_not (dt_val (de_isi (do_e (de_ix (ix_2 (room_hu room)) opd_ix2 (do_v (pv 5)) (do_e de_int) (fun _ _ => rfl))) rfl fr.isinstance rfl fr.str rfl))))))) (dss_one (ds_ret de_bl)) dss_nil)
    (dss_cons (ds_if (dt_cmp (op_eqD (room_hu4 room)) opd_eq (do_e (de_callB call_len cad_len rfl fr.len boot_len (dos_cons (do_v (pv 5)) dos_nil))) (do_e de_int) rfl) (dss_one (ds_ret (de_and (de_cmp (op_eqD (room_hu4 room)) opd_eq (do_e (de_ix (ix_2 (room_hu room)) opd_ix2 (do_v (pv 5)) (do_e de_int) (fun _ _ => rfl))) (do_e (de_globS rfl c_NONE)) rfl) (de_one (de_cmp op_isN opd_isN (do_e (de_callN h_rank_by room hgd rfl (dos_cons (do_v (pv 0)) (dos_cons (do_v (pv 1)) (dos_cons (do_v (pv 2)) (dos_cons (do_v (pv 3)) (dos_cons (do_v (pv 4)) dos_nil))))))) (do_e de_non) rfl))))) dss_nil)
    (dss_cons (ds_if (PW.pt (dw_or (dt_cmp (op_neD (room_hu4 room)) opd_ne (do_e (de_ix (ix_2 (room_hu room)) opd_ix2 (do_v (pv 5)) (do_e de_int) (fun _ _ => rfl))) (do_e (de_globS rfl c_RANK)) rfl) (dw_or1 (dt_not (dt_val (de_callN h_is_rank room hgd rfl (dos_cons (do_v (pv 2)) (dos_cons (do_e (de_ix (ix_2 (room_hu room)) opd_ix2 (do_v (pv 5)) (do_e de_int) (fun _ _ => rfl))) dos_nil)))))))) (dss_one (ds_ret de_bl)) dss_nil)
    (dss_cons (ds_set nd rfl (.inl rfl) (de_ix (ix_2 (room_hu room)) opd_ix2 (do_e (de_callN h_given_by room hgd rfl (dos_cons (do_v (pv 0)) (dos_cons (do_v (pv 1)) (dos_cons (do_v (pv 2)) (dos_cons (do_e (de_ix (ix_2 (room_hu room)) opd_ix2 (do_v (pv 5)) (do_e de_int) (fun _ _ => rfl))) dos_nil)))))) (do_v (pv 3)) (fun _ _ => rfl)))
    (dss_one (ds_ret (de_and (de_cmp op_notN opd_isNotN (do_v (pv 6)) (do_e de_non) rfl) (de_one (de_cmp op_le opd_le (do_v (pv 6)) (do_v (pv 4)) rfl))))))))))
theorem sc_longest_by : FnScope ["chairs", "old", "heirs", "rank", "waits"] ["chairs", "old", "heirs", "rank"] (defScope (top 49)) := ⟨rfl, rfl, rfl, by decide +kernel, rfl, by decide +kernel, by decide +kernel⟩
theorem ok_longest_by (F : FunD K "longest_by" "longest_by" (defArgs (top 49)) (defBody (top 49)) (defScope (top 49)) [] [] f fd) (hm : mg "longest_by" = some (.ref f)) (fr : Fr mg) (h_given_by : Has P w K mg base 3 "given_by" F_given_by) (h_waits_by : Has P w K mg base 2 "waits_by" F_waits_by) : Has P w K mg base 4 "longest_by" F_longest_by := by
  have nd := sc_longest_by.nd
  refine hasF F hm (F.bindsN (ps := ["chairs", "old", "heirs", "rank"]) fun _ _ _ _ _ _ us hl => match us, hl with | [_, _, _, _], _ => rfl) sc_longest_by rfl rfl fun cd A fr_ s H E room hgd pin => ?_
  exact (dss_cons (ds_set nd rfl (.inl rfl) (de_callN h_waits_by room hgd rfl (dos_cons (do_v (pv 2)) (dos_cons (do_e (de_callN h_given_by room hgd rfl (dos_cons (do_v (pv 0)) (dos_cons (do_v (pv 1)) (dos_cons (do_v (pv 2)) (dos_cons (do_v (pv 3)) dos_nil)))))) dos_nil))))
    (dss_one (ds_ret (de_if (PW.pt (dw_or (dt_cmp (op_in2 (room_hu room)) opd_in2 (do_e de_non) (do_v (pv 4)) rfl) (dw_or1 (dt_cmp (op_eqD (room_hu4 room)) opd_eq (do_v (pv 4)) (do_e (de_lst dos_nil)) rfl)))) de_non (de_callB (cr_max rfl) cad_max rfl fr.max boot_max (dos_cons (do_v (pv 4)) dos_nil))))))
theorem sc_fairest_of : FnScope ["chairs", "old", "heirs", "rows", "rank", "row"] ["chairs", "old", "heirs"] (defScope (top 50)) := ⟨rfl, rfl, rfl, by decide +kernel, rfl, by decide +kernel, by decide +kernel⟩
theorem ok_fairest_of (F : FunD K "fairest_of" "fairest_of" (defArgs (top 50)) (defBody (top 50)) (defScope (top 50)) [] [] f fd) (hm : mg "fairest_of" = some (.ref f)) (fr : Fr mg) (h_longest_by : Has P w K mg base 4 "longest_by" F_longest_by) (h_ranks_of : Has P w K mg base 1 "ranks_of" F_ranks_of) : Has P w K mg base 5 "fairest_of" F_fairest_of := by
  have nd := sc_fairest_of.nd
  refine hasF F hm (F.bindsN (ps := ["chairs", "old", "heirs"]) fun _ _ _ _ _ _ us hl => match us, hl with | [_, _, _], _ => rfl) sc_fairest_of rfl rfl fun cd A fr_ s H E room hgd pin => ?_
  exact (dss_cons (ds_setLc (own := [("rank", 4)]) (sl := sl0) rfl nd rfl rfl rfl (blkOk_by (by kernel_rfl)) (by decide) (di_seq (do_e (de_callN h_ranks_of room hgd rfl (dos_cons (do_e (de_callB call_len cad_len rfl fr.len boot_len (dos_cons (do_v (pv 2)) dos_nil))) dos_nil))) tkin_e) (fun _ _ _ _ _ => (dg_name nd rfl (.inl rfl))) (fun _ _ _ _ _ => dts_nil) (fun _ _ _ _ _ => (de_tup (dos_cons (do_e (de_callN h_longest_by room hgd rfl (dos_cons (do_v (pv 0)) (dos_cons (do_v (pv 1)) (dos_cons (do_v (pv 2)) (dos_cons (do_v (pv 4)) dos_nil)))))) (dos_cons (do_e (de_v (pv 4))) dos_nil)))))
    (dss_cons (ds_setLc (own := [("row", 5)]) (sl := (sl1 3)) rfl nd rfl rfl rfl (blkOk_by (by kernel_rfl)) (by decide) (di_seq (do_v (pv 3)) (tkin_v in_sl1)) (fun _ _ _ _ _ => (dg_name nd rfl (.inl rfl))) (fun _ _ _ _ _ => (dts_one (dt_cmp op_notN opd_isNotN (do_e (de_ix (ix_2 (room_hu room)) opd_ix2 (do_v (pv 5)) (do_e de_int) (fun _ _ => rfl))) (do_e de_non) rfl))) (fun _ _ _ _ _ => (de_v (pv 5))))
    (dss_one (ds_ret (de_if (dt_cmp (op_neD (room_hu4 room)) opd_ne (do_v (pv 3)) (do_e (de_lst dos_nil)) rfl) (de_callB (cr_minP rfl (room_hu room)) cad_minP rfl fr.min boot_min (dos_cons (do_v (pv 3)) dos_nil)) de_non)))))
theorem sc_fairest : FnScope ["chairs", "old", "heirs"] ["chairs", "old", "heirs"] (defScope (top 51)) := ⟨rfl, rfl, rfl, by decide +kernel, rfl, by decide +kernel, by decide +kernel⟩
theorem ok_fairest (F : FunD K "fairest" "fairest" (defArgs (top 51)) (defBody (top 51)) (defScope (top 51)) [] [] f fd) (hm : mg "fairest" = some (.ref f)) (fr : Fr mg) (h_check_few : Has P w K mg base 6 "check_few" F_check_few) (h_fairest_of : Has P w K mg base 5 "fairest_of" F_fairest_of) : Has P w K mg base 7 "fairest" F_fairest := by
  have nd := sc_fairest.nd
  refine hasF F hm (F.bindsN (ps := ["chairs", "old", "heirs"]) fun _ _ _ _ _ _ us hl => match us, hl with | [_, _, _], _ => rfl) sc_fairest rfl rfl fun cd A fr_ s H E room hgd pin => ?_
  exact (dss_cons (ds_expr (de_callN h_check_few room hgd rfl (dos_cons (do_v (pv 0)) (dos_cons (do_v (pv 1)) (dos_cons (do_v (pv 2)) dos_nil)))))
    (dss_one (ds_ret (de_callN h_fairest_of room hgd rfl (dos_cons (do_v (pv 0)) (dos_cons (do_v (pv 1)) (dos_cons (do_v (pv 2)) dos_nil)))))))
theorem sc_shows_fairest : FnScope ["chairs", "old", "heirs", "value", "best"] ["chairs", "old", "heirs", "value"] (defScope (top 52)) := ⟨rfl, rfl, rfl, by decide +kernel, rfl, by decide +kernel, by decide +kernel⟩
theorem ok_shows_fairest (F : FunD K "shows_fairest" "shows_fairest" (defArgs (top 52)) (defBody (top 52)) (defScope (top 52)) [] [] f fd) (hm : mg "shows_fairest" = some (.ref f)) (fr : Fr mg) (h_check_few : Has P w K mg base 6 "check_few" F_check_few) (h_fairest_of : Has P w K mg base 5 "fairest_of" F_fairest_of) (h_is_between : Has P w K mg base 2 "is_between" F_is_between) (h_is_rank : Has P w K mg base 4 "is_rank" F_is_rank) (h_longest_by : Has P w K mg base 4 "longest_by" F_longest_by) (c_MOST_WAITED : ∃ t, mg "MOST_WAITED" = some (.int 100 t)) : Has P w K mg base 7 "shows_fairest" F_shows_fairest := by
  have nd := sc_shows_fairest.nd
  refine hasF F hm (F.bindsN (ps := ["chairs", "old", "heirs", "value"]) fun _ _ _ _ _ _ us hl => match us, hl with | [_, _, _, _], _ => rfl) sc_shows_fairest rfl rfl fun cd A fr_ s H E room hgd pin => ?_
  exact (dss_cons (ds_expr (de_callN h_check_few room hgd rfl (dos_cons (do_v (pv 0)) (dos_cons (do_v (pv 1)) (dos_cons (do_v (pv 2)) dos_nil)))))
    (dss_cons (ds_set nd rfl (.inl rfl) (de_callN h_fairest_of room hgd rfl (dos_cons (do_v (pv 0)) (dos_cons (do_v (pv 1)) (dos_cons (do_v (pv 2)) dos_nil)))))
    (dss_cons (ds_if (PW.pt (dw_or (dt_cmp op_isN opd_isN (do_v (pv 4)) (do_e de_non) rfl) (dw_or1 (dt_cmp op_isN opd_isN (do_v (pv 3)) (do_e de_non) rfl)))) (dss_one (ds_ret (de_and (de_cmp op_isN opd_isN (do_v (pv 4)) (do_e de_non) rfl) (de_one (de_cmp op_isN opd_isN (do_v (pv 3)) (do_e de_non) rfl))))) dss_nil)
    (dss_cons (ds_if (PW.pt (dw_or (dt_not (dt_val (de_isi (do_v (pv 3)) rfl fr.isinstance rfl fr.tuple rfl))) (dw_or (dt_cmp (op_neD (room_hu4 room)) opd_ne (do_e (de_callB call_len cad_len rfl fr.len boot_len (dos_cons (do_v (pv 3)) dos_nil))) (do_e de_int) rfl) (dw_or1 (dt_not (dt_val (de_callN h_is_between room hgd rfl (dos_cons (do_e (de_ix (ix_2 (room_hu room)) opd_ix2 (do_v (pv 3)) (do_e de_int) (fun _ _ => rfl))) (dos_cons (do_e de_int) (dos_cons (do_e (de_globI rfl c_MOST_WAITED)) dos_nil)))))))))) (dss_one (ds_ret de_bl)) dss_nil)
    (dss_cons (ds_if (PW.pt (dw_or (dt_not (dt_val (de_callN h_is_rank room hgd rfl (dos_cons (do_v (pv 2)) (dos_cons (do_e (de_ix (ix_2 (room_hu room)) opd_ix2 (do_v (pv 3)) (do_e de_int) (fun _ _ => rfl))) dos_nil))))) (dw_or1 (dt_cmp (op_neD (room_hu4 room)) opd_ne (do_e (de_ix (ix_2 (room_hu room)) opd_ix2 (do_v (pv 3)) (do_e de_int) (fun _ _ => rfl))) (do_e (de_ix (ix_2 (room_hu room)) opd_ix2 (do_v (pv 4)) (do_e de_int) (fun _ _ => rfl))) rfl)))) (dss_one (ds_ret de_bl)) dss_nil)
    (dss_one (ds_ret (de_cmp (op_eqD (room_hu4 room)) opd_eq (do_e (de_callN h_longest_by room hgd rfl (dos_cons (do_v (pv 0)) (dos_cons (do_v (pv 1)) (dos_cons (do_v (pv 2)) (dos_cons (do_e (de_ix (ix_2 (room_hu room)) opd_ix2 (do_v (pv 3)) (do_e de_int) (fun _ _ => rfl))) dos_nil)))))) (do_e (de_ix (ix_2 (room_hu room)) opd_ix2 (do_v (pv 4)) (do_e de_int) (fun _ _ => rfl))) rfl))))))))
theorem sc__law_pot : FnScope ["script", "place", "cell", "own", "small"] ["script", "place"] (defScope (top 54)) := ⟨rfl, rfl, rfl, by decide +kernel, rfl, by decide +kernel, by decide +kernel⟩
theorem ok__law_pot (F : FunD K "_law_pot" "_law_pot" (defArgs (top 54)) (defBody (top 54)) (defScope (top 54)) [] [] f fd) (hm : mg "_law_pot" = some (.ref f)) (fr : Fr mg) : Has P w K mg base 1 "_law_pot" F__law_pot := by
  have nd := sc__law_pot.nd
  refine hasF F hm (F.bindsN (ps := ["script", "place"]) fun _ _ _ _ _ _ us hl => match us, hl with | [_, _], _ => rfl) sc__law_pot rfl rfl fun cd A fr_ s H E room hgd pin => ?_
  exact (dss_cons (ds_set nd rfl (.inl rfl) (de_if (dt_cmp (Dn.op_ltX room.units0) opd_lt (do_v (pv 1)) (do_e (de_callB call_len cad_len rfl fr.len boot_len (dos_cons (do_v (pv 0)) dos_nil))) rfl) (de_ix (ix_2 (room_hu room)) opd_ix2 (do_v (pv 0)) (do_v (pv 1)) (fun _ _ => rfl)) (de_op Dn.op_addX opd_add (do_e (de_op Dn.op_addX opd_add (do_e (de_op op_mod opd_mod (do_e (de_callTy call_int1 cad_intOf rfl fr.int boot_int (dos_cons (do_e (de_callB (cr_sum rfl) cad_sum rfl fr.sum boot_sum (dos_cons (do_e (de_sl Dn.sl_X Dn.sld_X (do_v (pv 0)) dp_none (dp_some de_int))) dos_nil))) dos_nil))) (do_e de_int))) (do_e (de_op Dn.op_mulX opd_mul (do_e de_int) (do_v (pv 1)))))) (do_e de_int))))
    (dss_cons (ds_set nd rfl (.inl rfl) (de_op Dn.op_mulX opd_mul (do_e (de_op op_mod opd_mod (do_e (de_callTy call_int1 cad_intOf rfl fr.int boot_int (dos_cons (do_e (de_callB call_abs cad_abs rfl fr.abs boot_abs (dos_cons (do_v (pv 2)) dos_nil))) dos_nil))) (do_e (de_op Dn.op_powX opd_pow (do_e (de_op Dn.op_powX opd_pow (do_e de_int) (do_e de_int))) (do_e de_int))))) (do_e (de_callTy call_int1 cad_intOf rfl fr.int boot_int (dos_cons (do_e (de_cmp op_ge opd_ge (do_e (de_callB call_abs cad_abs rfl fr.abs boot_abs (dos_cons (do_v (pv 2)) dos_nil))) (do_e (de_op Dn.op_powX opd_pow (do_e de_int) (do_e de_int))) rfl)) dos_nil)))))
    (dss_cons (ds_set nd rfl (.inl rfl) (de_op op_mod opd_mod (do_e (de_callTy call_int1 cad_intOf rfl fr.int boot_int (dos_cons (do_v (pv 2)) dos_nil))) (do_e de_int)))
    (dss_one (ds_ret (de_lst (dos_cons (do_e (de_v (pv 3))) (dos_cons (do_e (de_op op_mod opd_mod (do_e (de_callTy call_int1 cad_intOf rfl fr.int boot_int (dos_cons (do_e (de_op Dn.op_addX opd_add (do_e (de_op Dn.op_addX opd_add (do_e (de_op Dn.op_mulX opd_mul (do_v (pv 4)) (do_e de_int))) (do_e (de_op Dn.op_mulX opd_mul (do_e (de_op Dn.op_mulX opd_mul (do_e de_int) (do_v (pv 1)))) (do_v (pv 1)))))) (do_e de_int))) dos_nil))) (do_e de_int))) (dos_cons (do_e de_int) dos_nil)))))))))
theorem sc__law_take : FnScope ["pot", "upto", "ring", "blend", "digit"] ["pot", "upto"] (defScope (top 55)) := ⟨rfl, rfl, rfl, by decide +kernel, rfl, by decide +kernel, by decide +kernel⟩
theorem ok__law_take (F : FunD K "_law_take" "_law_take" (defArgs (top 55)) (defBody (top 55)) (defScope (top 55)) [] [] f fd) (hm : mg "_law_take" = some (.ref f)) (fr : Fr mg) : Has P w K mg base 1 "_law_take" F__law_take := by
  have nd := sc__law_take.nd
  refine hasF F hm (F.bindsN (ps := ["pot", "upto"]) fun _ _ _ _ _ _ us hl => match us, hl with | [_, _], _ => rfl) sc__law_take rfl rfl fun cd A fr_ s H E room hgd pin => ?_
  exact (dss_cons (ds_if (dt_cmp op_gt opd_gt (do_e (de_ix (ix_2 (room_hu room)) opd_ix2 (do_v (pv 0)) (do_e de_int) (fun _ _ => rfl))) (do_e de_int) rfl) (dss_cons (ds_set nd rfl (.inl rfl) (de_op op_mod opd_mod (do_e (de_callTy call_int1 cad_intOf rfl fr.int boot_int (dos_cons (do_e (de_ix (ix_2 (room_hu room)) opd_ix2 (do_v (pv 0)) (do_e de_int) (fun _ _ => rfl))) dos_nil))) (do_v (pv 1))))
    (dss_cons (ds_asg (de_op op_fdiv opd_fdiv (do_e (de_ix (ix_2 (room_hu room)) opd_ix2 (do_v (pv 0)) (do_e de_int) (fun _ _ => rfl))) (do_v (pv 1))) (dg_set (pv 0) de_int))
    (dss_one (ds_ret (de_v (pv 4)))))) dss_nil)
    (dss_cons (ds_asg (de_op Dn.op_addX opd_add (do_e (de_ix (ix_2 (room_hu room)) opd_ix2 (do_v (pv 0)) (do_e de_int) (fun _ _ => rfl))) (do_e de_int)) (dg_set (pv 0) de_int))
    (dss_cons (ds_set nd rfl (.inl rfl) (de_ix (ix_2 (room_hu room)) opd_ix2 (do_e (de_lst (dos_cons (do_e de_int) (dos_cons (do_e de_int) (dos_cons (do_e de_int) (dos_cons (do_e de_int) dos_nil)))))) (do_e (de_op op_mod opd_mod (do_e (de_callTy call_int1 cad_intOf rfl fr.int boot_int (dos_cons (do_e (de_ix (ix_2 (room_hu room)) opd_ix2 (do_v (pv 0)) (do_e de_int) (fun _ _ => rfl))) dos_nil))) (do_e de_int))) (fun _ _ => rfl)))
    (dss_cons (ds_set nd rfl (.inl rfl) (de_op op_mod opd_mod (do_e (de_callTy call_int1 cad_intOf rfl fr.int boot_int (dos_cons (do_e (de_op Dn.op_powX opd_pow (do_e (de_callTy call_int1 cad_intOf rfl fr.int boot_int (dos_cons (do_e (de_op Dn.op_addX opd_add (do_e (de_op Dn.op_addX opd_add (do_e (de_ix (ix_2 (room_hu room)) opd_ix2 (do_v (pv 0)) (do_e de_int) (fun _ _ => rfl))) (do_e (de_op Dn.op_mulX opd_mul (do_e (de_op Dn.op_mulX opd_mul (do_e de_int) (do_e (de_ix (ix_2 (room_hu room)) opd_ix2 (do_v (pv 0)) (do_e de_int) (fun _ _ => rfl))))) (do_e (de_ix (ix_2 (room_hu room)) opd_ix2 (do_v (pv 0)) (do_e de_int) (fun _ _ => rfl))))))) (do_e de_int))) dos_nil))) (do_e de_int))) dos_nil))) (do_v (pv 2))))
    (dss_one (ds_ret (de_op op_mod opd_mod (do_e (de_callTy call_int1 cad_intOf rfl fr.int boot_int (dos_cons (do_e (de_op op_fdiv opd_fdiv (do_e (de_op Dn.op_mulX opd_mul (do_v (pv 3)) (do_e (de_op Dn.op_addX opd_add (do_e (de_op op_mod opd_mod (do_e (de_callTy call_int1 cad_intOf rfl fr.int boot_int (dos_cons (do_v (pv 3)) dos_nil))) (do_e de_int))) (do_e (de_op Dn.op_mulX opd_mul (do_e de_int) (do_e (de_ix (ix_2 (room_hu room)) opd_ix2 (do_v (pv 0)) (do_e de_int) (fun _ _ => rfl))))))))) (do_e de_int))) dos_nil))) (do_v (pv 1)))))))))
theorem sc__law_of : FnScope ["pot", "some"] ["pot", "some"] (defScope (top 56)) := ⟨rfl, rfl, rfl, by decide +kernel, rfl, by decide +kernel, by decide +kernel⟩
theorem ok__law_of (F : FunD K "_law_of" "_law_of" (defArgs (top 56)) (defBody (top 56)) (defScope (top 56)) [] [] f fd) (hm : mg "_law_of" = some (.ref f)) (fr : Fr mg) (h__law_take : Has P w K mg base 1 "_law_take" F__law_take) : Has P w K mg base 2 "_law_of" F__law_of := by
  have nd := sc__law_of.nd
  refine hasF F hm (F.bindsN (ps := ["pot", "some"]) fun _ _ _ _ _ _ us hl => match us, hl with | [_, _], _ => rfl) sc__law_of rfl rfl fun cd A fr_ s H E room hgd pin => ?_
  exact (dss_one (ds_ret (de_ix (ix_2 (room_hu room)) opd_ix2 (do_v (pv 1)) (do_e (de_callN h__law_take room hgd rfl (dos_cons (do_v (pv 0)) (dos_cons (do_e (de_callB call_len cad_len rfl fr.len boot_len (dos_cons (do_v (pv 1)) dos_nil))) dos_nil)))) (fun _ _ => rfl))))
theorem sc__law_cells : FnScope ["script", "limit"] ["script", "limit"] (defScope (top 57)) := ⟨rfl, rfl, rfl, by decide +kernel, rfl, by decide +kernel, by decide +kernel⟩
theorem ok__law_cells (F : FunD K "_law_cells" "_law_cells" (defArgs (top 57)) (defBody (top 57)) (defScope (top 57)) [] [] f fd) (hm : mg "_law_cells" = some (.ref f)) (fr : Fr mg) : Has P w K mg base 1 "_law_cells" F__law_cells := by
  have nd := sc__law_cells.nd
  refine hasF F hm (F.bindsN (ps := ["script", "limit"]) fun _ _ _ _ _ _ us hl => match us, hl with | [_, _], _ => rfl) sc__law_cells rfl rfl fun cd A fr_ s H E room hgd pin => ?_
  exact (dss_one (ds_ret (de_listRg1 rfl rfl fr.list rfl fr.range (do_e (de_callB (call_max2 rfl) cad_ii2 rfl fr.max boot_max (dos_cons (do_e de_int) (dos_cons (do_e (de_callB (call_min2 rfl) cad_ii2 rfl fr.min boot_min (dos_cons (do_v (pv 1)) (dos_cons (do_e (de_callB call_len cad_len rfl fr.len boot_len (dos_cons (do_v (pv 0)) dos_nil))) dos_nil)))) dos_nil)))))))
theorem sc__law_some : FnScope ["pot", "pool", "many", "rest", "found"] ["pot", "pool", "many"] (defScope (top 58)) := ⟨rfl, rfl, rfl, by decide +kernel, rfl, by decide +kernel, by decide +kernel⟩
theorem ok__law_some (F : FunD K "_law_some" "_law_some" (defArgs (top 58)) (defBody (top 58)) (defScope (top 58)) [] [] f fd) (hm : mg "_law_some" = some (.ref f)) (fr : Fr mg) (h__law_take : Has P w K mg base 1 "_law_take" F__law_take) : Has P w K mg base 2 "_law_some" F__law_some := by
  have nd := sc__law_some.nd
  refine hasF F hm (F.bindsN (ps := ["pot", "pool", "many"]) fun _ _ _ _ _ _ us hl => match us, hl with | [_, _, _], _ => rfl) sc__law_some rfl rfl fun cd A fr_ s H E room hgd pin => ?_
  exact (dss_cons (ds_par2 rfl nd rfl rfl (by decide) rfl rfl (dos_cons (do_e (de_callTy call_list_of cad_lstOf rfl fr.list boot_list (dos_cons (do_v (pv 1)) dos_nil))) (dos_cons (do_e (de_lst dos_nil)) dos_nil)) rfl)
    (dss_cons (ds_while PassesOwn.never (PW.pt (dw_and (dt_cmp (op_neD (room_hu4 room)) opd_ne (do_v (pv 3)) (do_e (de_lst dos_nil)) rfl) (dw_and1 (dt_cmp (Dn.op_ltX room.units0) opd_lt (do_e (de_callB call_len cad_len rfl fr.len boot_len (dos_cons (do_v (pv 4)) dos_nil))) (do_v (pv 2)) rfl)))) (dss_one (ds_expr (de_mut1 PySem.F.slot_list_append PySem.F.type_list_append mt_append mud_app (pv 4) (de_mut1 PySem.F.slot_list_pop PySem.F.type_list_pop mt_popAt mud_pop (pv 3) (de_callN h__law_take room hgd rfl (dos_cons (do_v (pv 0)) (dos_cons (do_e (de_callB call_len cad_len rfl fr.len boot_len (dos_cons (do_v (pv 3)) dos_nil))) dos_nil))))))))
    (dss_one (ds_ret (de_v (pv 4))))))
theorem sc__law_places : FnScope ["rows", "at"] ["rows"] (defScope (top 59)) := ⟨rfl, rfl, rfl, by decide +kernel, rfl, by decide +kernel, by decide +kernel⟩
theorem ok__law_places (F : FunD K "_law_places" "_law_places" (defArgs (top 59)) (defBody (top 59)) (defScope (top 59)) [] [] f fd) (hm : mg "_law_places" = some (.ref f)) (fr : Fr mg) : Has P w K mg base 1 "_law_places" F__law_places := by
  have nd := sc__law_places.nd
  refine hasF F hm (F.bindsN (ps := ["rows"]) fun _ _ _ _ _ _ us hl => match us, hl with | [_], _ => rfl) sc__law_places rfl rfl fun cd A fr_ s H E room hgd pin => ?_
  exact (dss_one (ds_ret (de_callTy call_tupB cad_tupOf rfl fr.tuple boot_tuple (dos_cons (do_e (de_comp (own := [("at", 1)]) (sl := sl0) rfl nd (blkOk_by (by kernel_rfl)) (by decide) (di_range1 rfl fr.range (dos_cons (do_e (de_callB call_len cad_len rfl fr.len boot_len (dos_cons (do_v (pv 0)) dos_nil))) dos_nil)) (fun _ _ _ _ _ => (dg_name nd rfl (.inl rfl))) (fun _ _ _ _ _ => dts_nil) (fun _ _ _ _ _ => (de_callTy call_int1 cad_intOf rfl fr.int boot_int (dos_cons (do_v (pv 1)) dos_nil))))) dos_nil))))
theorem sc__law_run : FnScope ["chairs", "old", "heirs", "rank", "until", "given", "year", "free", "waiting", "at", "heir"] ["chairs", "old", "heirs", "rank"] (defScope (top 60)) := ⟨rfl, rfl, rfl, by decide +kernel, rfl, by decide +kernel, by decide +kernel⟩
theorem ok__law_run (F : FunD K "_law_run" "_law_run" (defArgs (top 60)) (defBody (top 60)) (defScope (top 60)) [] [] f fd) (hm : mg "_law_run" = some (.ref f)) (fr : Fr mg) (h__law_places : Has P w K mg base 1 "_law_places" F__law_places) : Has P w K mg base 2 "_law_run" F__law_run := by
  have nd := sc__law_run.nd
  refine hasF F hm (F.bindsN (ps := ["chairs", "old", "heirs", "rank"]) fun _ _ _ _ _ _ us hl => match us, hl with | [_, _, _, _], _ => rfl) sc__law_run rfl rfl fun cd A fr_ s H E room hgd pin => ?_
  exact (dss_cons (ds_asg (de_tup (dos_cons (do_e (de_op Dn.op_addX opd_add (do_e (de_callTy call_list_of cad_lstOf rfl fr.list boot_list (dos_cons (do_v (pv 1)) dos_nil))) (do_e (de_op Dn.op_mulX opd_mul (do_e (de_lst (dos_cons (do_e de_int) dos_nil))) (do_e (de_op op_sub opd_sub (do_v (pv 0)) (do_e (de_callB call_len cad_len rfl fr.len boot_len (dos_cons (do_v (pv 1)) dos_nil))))))))) (dos_cons (do_e de_dict0) dos_nil))) (dg_tup rfl (dgs_cons (dg_name nd rfl (.inr rfl)) (dgs_cons (dg_name nd rfl (.inr rfl)) dgs_nil))))
    (dss_cons (ds_for (sl := sl0) PassesOwn.never rfl (di_range1 rfl fr.range (dos_cons (do_e de_int) dos_nil)) (dg_name nd rfl (.inr rfl)) (dss_cons (ds_setLc (own := [("at", 9)]) (sl := sl0) rfl nd rfl rfl rfl (blkOk_by (by kernel_rfl)) (by decide) (di_range1 rfl fr.range (dos_cons (do_v (pv 0)) dos_nil)) (fun _ _ _ _ _ => (dg_name nd rfl (.inl rfl))) (fun _ _ _ _ _ => (dts_one (dt_cmp op_le opd_le (do_e (de_ix (ix_2 (room_hu room)) opd_ix2 (do_v (pv 4)) (do_v (pv 9)) (fun _ _ => rfl))) (do_v (pv 6)) rfl))) (fun _ _ _ _ _ => (de_v (pv 9))))
    (dss_cons (ds_set nd rfl (.inl rfl) (de_if (dt_cmp (op_neD (room_hu4 room)) opd_ne (do_v (pv 7)) (do_e (de_lst dos_nil)) rfl) (de_comp (own := [("heir", 10)]) (sl := (sl1 3)) rfl nd (blkOk_by (by kernel_rfl)) (by decide) (di_seq (do_v (pv 3)) (tkin_v in_sl1)) (fun _ _ _ _ _ => (dg_name nd rfl (.inl rfl))) (fun _ _ _ _ _ => (dts_one (PW.pt (dw_and (dt_cmp (op_notIn2 (room_hu room)) opd_notIn2 (do_v (pv 10)) (do_v (pv 5)) rfl) (dw_and1 (dt_cmp op_le opd_le (do_e (de_op Dn.op_addX opd_add (do_e (de_ix (ix_2 (room_hu room)) opd_ix2 (do_e (de_ix (ix_2 (room_hu room)) opd_ix2 (do_v (pv 2)) (do_v (pv 10)) (fun _ _ => rfl))) (do_e de_int) (fun _ _ => rfl))) (do_e (de_ix (ix_2 (room_hu room)) opd_ix2 (do_e (de_ix (ix_2 (room_hu room)) opd_ix2 (do_v (pv 2)) (do_v (pv 10)) (fun _ _ => rfl))) (do_e de_int) (fun _ _ => rfl))))) (do_v (pv 6)) rfl)))))) (fun _ _ _ _ _ => (de_v (pv 10)))) (de_lst dos_nil)))
    (dss_one (ds_for (sl := (sl2 7 8)) PassesOwn.never rfl (di_zip rfl fr.zip (dos_cons (do_v (pv 7)) (dos_cons (do_v (pv 8)) dos_nil)) (tkins_cons (tkin_v in_sl2a) (tkins_cons (tkin_v in_sl2b) tkins_nil))) (dg_tup rfl (dgs_cons (dg_name nd rfl (.inl rfl)) (dgs_cons (dg_name nd rfl (.inl rfl)) dgs_nil))) (dss_cons (ds_asg (de_op Dn.op_addX opd_add (do_v (pv 6)) (do_e (de_ix (ix_2 (room_hu room)) opd_ix2 (do_e (de_ix (ix_2 (room_hu room)) opd_ix2 (do_v (pv 2)) (do_v (pv 10)) (fun _ _ => rfl))) (do_e de_int) (fun _ _ => rfl)))) (dg_set (pv 4) (de_v (pv 9))))
    (dss_one (ds_asg (de_callTy call_int1 cad_intOf rfl fr.int boot_int (dos_cons (do_v (pv 6)) dos_nil)) (dg_setD (room_hu1 room) (pv 5) (de_v (pv 10)))))))))))
    (dss_one (ds_ret (de_callTy call_tupB cad_tupOf rfl fr.tuple boot_tuple (dos_cons (do_e (de_comp (own := [("heir", 10)]) (sl := sl0) rfl nd (blkOk_by (by kernel_rfl)) (by decide) (di_seq (do_e (de_callN h__law_places room hgd rfl (dos_cons (do_v (pv 2)) dos_nil))) tkin_e) (fun _ _ _ _ _ => (dg_name nd rfl (.inl rfl))) (fun _ _ _ _ _ => dts_nil) (fun _ _ _ _ _ => (de_md PySem.F.slot_dict_get PySem.F.type_dict_get (mt_dget (room_hu1 room)) med_dget (do_v (pv 5)) (dos_cons (do_v (pv 10)) dos_nil))))) dos_nil))))))
theorem sc__law_ranks : FnScope ["many", "rows", "lap", "longer", "row", "heir"] ["many"] (defScope (top 61)) := ⟨rfl, rfl, rfl, by decide +kernel, rfl, by decide +kernel, by decide +kernel⟩
theorem ok__law_ranks (F : FunD K "_law_ranks" "_law_ranks" (defArgs (top 61)) (defBody (top 61)) (defScope (top 61)) [] [] f fd) (hm : mg "_law_ranks" = some (.ref f)) (fr : Fr mg) : Has P w K mg base 1 "_law_ranks" F__law_ranks := by
  have nd := sc__law_ranks.nd
  refine hasF F hm (F.bindsN (ps := ["many"]) fun _ _ _ _ _ _ us hl => match us, hl with | [_], _ => rfl) sc__law_ranks rfl rfl fun cd A fr_ s H E room hgd pin => ?_
  exact (dss_cons (ds_set nd rfl (.inl rfl) (de_lst (dos_cons (do_e (de_tup dos_nil)) dos_nil)))
    (dss_cons (ds_for (sl := sl0) PassesOwn.never rfl (di_range1 rfl fr.range (dos_cons (do_v (pv 0)) dos_nil)) (dg_name nd rfl (.inl rfl)) (dss_cons (ds_set nd rfl (.inl rfl) (de_lst dos_nil))
    (dss_cons (ds_for (sl := (sl1 1)) PassesOwn.never rfl (di_seq (do_v (pv 1)) (tkin_v in_sl1)) (dg_name nd rfl (.inr rfl)) (dss_one (ds_expr (de_mut1 PySem.F.slot_list_extend PySem.F.type_list_extend mt_extend mud_ext (pv 3) (de_comp (own := [("heir", 5)]) (sl := sl0) rfl nd (blkOk_by (by kernel_rfl)) (by decide) (di_range1 rfl fr.range (dos_cons (do_v (pv 0)) dos_nil)) (fun _ _ _ _ _ => (dg_name nd rfl (.inl rfl))) (fun _ _ _ _ _ => (dts_one (dt_cmp (op_notIn2 (room_hu room)) opd_notIn2 (do_v (pv 5)) (do_v (pv 4)) rfl))) (fun _ _ _ _ _ => (de_op Dn.op_addX opd_add (do_v (pv 4)) (do_e (de_tup (dos_cons (do_e (de_callTy call_int1 cad_intOf rfl fr.int boot_int (dos_cons (do_v (pv 5)) dos_nil))) dos_nil))))))))))
    (dss_one (ds_set nd rfl (.inl rfl) (de_v (pv 3)))))))
    (dss_one (ds_ret (de_v (pv 1))))))
theorem sc__law_greatest : FnScope ["heirs", "given", "waits", "heir", "year"] ["heirs", "given"] (defScope (top 62)) := ⟨rfl, rfl, rfl, by decide +kernel, rfl, by decide +kernel, by decide +kernel⟩
theorem ok__law_greatest (F : FunD K "_law_greatest" "_law_greatest" (defArgs (top 62)) (defBody (top 62)) (defScope (top 62)) [] [] f fd) (hm : mg "_law_greatest" = some (.ref f)) (fr : Fr mg) : Has P w K mg base 1 "_law_greatest" F__law_greatest := by
  have nd := sc__law_greatest.nd
  refine hasF F hm (F.bindsN (ps := ["heirs", "given"]) fun _ _ _ _ _ _ us hl => match us, hl with | [_, _], _ => rfl) sc__law_greatest rfl rfl fun cd A fr_ s H E room hgd pin => ?_
  exact (dss_cons (ds_setLc (own := [("heir", 3), ("year", 4)]) (sl := (sl2 0 1)) rfl nd rfl rfl rfl (blkOk_by (by kernel_rfl)) (by decide) (di_zip rfl fr.zip (dos_cons (do_v (pv 0)) (dos_cons (do_v (pv 1)) dos_nil)) (tkins_cons (tkin_v in_sl2a) (tkins_cons (tkin_v in_sl2b) tkins_nil))) (fun _ _ _ _ _ => (dg_tup rfl (dgs_cons (dg_name nd rfl (.inl rfl)) (dgs_cons (dg_name nd rfl (.inl rfl)) dgs_nil)))) (fun _ _ _ _ _ => dts_nil) (fun _ _ _ _ _ => (de_if (dt_cmp op_isN opd_isN (do_v (pv 4)) (do_e de_non) rfl) de_non (de_op op_sub opd_sub (do_e (de_op op_sub opd_sub (do_v (pv 4)) (do_e (de_ix (ix_2 (room_hu room)) opd_ix2 (do_v (pv 3)) (do_e de_int) (fun _ _ => rfl))))) (do_e (de_ix (ix_2 (room_hu room)) opd_ix2 (do_v (pv 3)) (do_e de_int) (fun _ _ => rfl)))))))
    (dss_one (ds_ret (de_if (PW.pt (dw_or (dt_cmp (op_eqD (room_hu4 room)) opd_eq (do_v (pv 2)) (do_e (de_lst dos_nil)) rfl) (dw_or1 (dt_cmp (op_in2 (room_hu room)) opd_in2 (do_e de_non) (do_v (pv 2)) rfl)))) de_non (de_callB (cr_max rfl) cad_max rfl fr.max boot_max (dos_cons (do_v (pv 2)) dos_nil))))))
theorem sc__law_right : FnScope ["pot", "old", "chairs", "heirs", "lap", "ranks", "runs", "greatest", "known", "told", "heir", "rank", "run", "begin", "free", "year", "one", "at", "wait", "some", "first", "had", "its", "number", "last", "far"] ["pot"] (defScope (top 63)) := ⟨rfl, rfl, rfl, by decide +kernel, rfl, by decide +kernel, by decide +kernel⟩
theorem ok__law_right (F : FunD K "_law_right" "_law_right" (defArgs (top 63)) (defBody (top 63)) (defScope (top 63)) [] [] f fd) (hm : mg "_law_right" = some (.ref f)) (fr : Fr mg) (h__law_greatest : Has P w K mg base 1 "_law_greatest" F__law_greatest) (h__law_of : Has P w K mg base 2 "_law_of" F__law_of) (h__law_places : Has P w K mg base 1 "_law_places" F__law_places) (h__law_ranks : Has P w K mg base 1 "_law_ranks" F__law_ranks) (h__law_run : Has P w K mg base 2 "_law_run" F__law_run) (h__law_some : Has P w K mg base 2 "_law_some" F__law_some) (h__law_take : Has P w K mg base 1 "_law_take" F__law_take) (h_best_first : Has P w K mg base 7 "best_first" F_best_first) (h_fairest : Has P w K mg base 7 "fairest" F_fairest) (h_given_in : Has P w K mg base 7 "given_in" F_given_in) (h_longest_wait : Has P w K mg base 7 "longest_wait" F_longest_wait) (h_rank_told : Has P w K mg base 8 "rank_told" F_rank_told) (h_shows_fairest : Has P w K mg base 7 "shows_fairest" F_shows_fairest) (h_shows_rank : Has P w K mg base 8 "shows_rank" F_shows_rank) : Has P w K mg base 9 "_law_right" F__law_right := by
  have nd := sc__law_right.nd
  refine hasF F hm (F.bindsN (ps := ["pot"]) fun _ _ _ _ _ _ us hl => match us, hl with | [_], _ => rfl) sc__law_right rfl rfl fun cd A fr_ s H E room hgd pin => ?_
  exact (dss_cons (ds_set nd rfl (.inr rfl) (de_callTy call_tupB cad_tupOf rfl fr.tuple boot_tuple (dos_cons (do_e (de_callB cr_sortedIT cad_sort2 rfl fr.sorted boot_sorted (dos_cons (do_e (de_comp (own := [("lap", 4)]) (sl := sl0) rfl nd (blkOk_by (by kernel_rfl)) (by decide) (di_range1 rfl fr.range (dos_cons (do_e (de_callN h__law_take room hgd rfl (dos_cons (do_v (pv 0)) (dos_cons (do_e de_int) dos_nil)))) dos_nil)) (fun _ _ _ _ _ => (dg_name nd rfl (.inl rfl))) (fun _ _ _ _ _ => dts_nil) (fun _ _ _ _ _ => (de_callTy call_int1 cad_intOf rfl fr.int boot_int (dos_cons (do_e (de_callN h__law_take room hgd rfl (dos_cons (do_v (pv 0)) (dos_cons (do_e (de_callN h__law_of room hgd rfl (dos_cons (do_v (pv 0)) (dos_cons (do_e (de_lst (dos_cons (do_e de_int) (dos_cons (do_e de_int) (dos_cons (do_e de_int) dos_nil))))) dos_nil)))) dos_nil)))) dos_nil))))) dos_nil))) dos_nil)))
    (dss_cons (ds_asg (de_tup (dos_cons (do_e (de_callTy call_int1 cad_intOf rfl fr.int boot_int (dos_cons (do_e (de_op Dn.op_addX opd_add (do_e (de_callB (call_max2 rfl) cad_ii2 rfl fr.max boot_max (dos_cons (do_e de_int) (dos_cons (do_e (de_callB call_len cad_len rfl fr.len boot_len (dos_cons (do_v (pv 1)) dos_nil))) dos_nil)))) (do_e (de_callN h__law_take room hgd rfl (dos_cons (do_v (pv 0)) (dos_cons (do_e (de_callN h__law_of room hgd rfl (dos_cons (do_v (pv 0)) (dos_cons (do_e (de_lst (dos_cons (do_e de_int) (dos_cons (do_e de_int) (dos_cons (do_e de_int) dos_nil))))) dos_nil)))) dos_nil)))))) dos_nil))) (dos_cons (do_e (de_lst dos_nil)) dos_nil))) (dg_tup rfl (dgs_cons (dg_name nd rfl (.inr rfl)) (dgs_cons (dg_name nd rfl (.inr rfl)) dgs_nil))))
    (dss_cons (ds_for (sl := sl0) PassesOwn.never rfl (di_range1 rfl fr.range (dos_cons (do_e (de_callN h__law_of room hgd rfl (dos_cons (do_v (pv 0)) (dos_cons (do_e (de_lst (dos_cons (do_e de_int) (dos_cons (do_e de_int) (dos_cons (do_e de_int) (dos_cons (do_e de_int) (dos_cons (do_e de_int) (dos_cons (do_e de_int) dos_nil)))))))) dos_nil)))) dos_nil)) (dg_name nd rfl (.inl rfl)) (dss_cons (ds_set nd rfl (.inl rfl) (de_tup (dos_cons (do_e (de_callTy call_int1 cad_intOf rfl fr.int boot_int (dos_cons (do_e (de_callN h__law_take room hgd rfl (dos_cons (do_v (pv 0)) (dos_cons (do_e (de_callN h__law_of room hgd rfl (dos_cons (do_v (pv 0)) (dos_cons (do_e (de_lst (dos_cons (do_e de_int) (dos_cons (do_e de_int) (dos_cons (do_e de_int) dos_nil))))) dos_nil)))) dos_nil)))) dos_nil))) (dos_cons (do_e (de_callTy call_int1 cad_intOf rfl fr.int boot_int (dos_cons (do_e (de_callN h__law_take room hgd rfl (dos_cons (do_v (pv 0)) (dos_cons (do_e (de_callN h__law_of room hgd rfl (dos_cons (do_v (pv 0)) (dos_cons (do_e (de_lst (dos_cons (do_e de_int) (dos_cons (do_e de_int) (dos_cons (do_e de_int) dos_nil))))) dos_nil)))) dos_nil)))) dos_nil))) (dos_cons (do_e (de_callTy call_int1 cad_intOf rfl fr.int boot_int (dos_cons (do_e (de_op Dn.op_addX opd_add (do_e de_int) (do_e (de_callN h__law_take room hgd rfl (dos_cons (do_v (pv 0)) (dos_cons (do_e (de_callN h__law_of room hgd rfl (dos_cons (do_v (pv 0)) (dos_cons (do_e (de_lst (dos_cons (do_e de_int) (dos_cons (do_e de_int) (dos_cons (do_e de_int) dos_nil))))) dos_nil)))) dos_nil)))))) dos_nil))) dos_nil)))))
    (dss_one (ds_expr (de_mut1 PySem.F.slot_list_append PySem.F.type_list_append mt_append mud_app (pv 3) (de_if (PW.pt (dw_and (dt_cmp (op_neD (room_hu4 room)) opd_ne (do_v (pv 3)) (do_e (de_lst dos_nil)) rfl) (dw_and1 (dt_cmp (op_eqD (room_hu4 room)) opd_eq (do_e (de_callN h__law_take room hgd rfl (dos_cons (do_v (pv 0)) (dos_cons (do_e de_int) dos_nil)))) (do_e de_int) rfl)))) (de_ix (ix_2 (room_hu room)) opd_ix2 (do_v (pv 3)) (do_e (de_un un_neg und_neg (do_e de_int))) (fun _ _ => rfl)) (de_v (pv 16))))))))
    (dss_cons (ds_set nd rfl (.inr rfl) (de_callTy call_tupB cad_tupOf rfl fr.tuple boot_tuple (dos_cons (do_v (pv 3)) dos_nil)))
    (dss_cons (ds_set nd rfl (.inl rfl) (de_callN h__law_ranks room hgd rfl (dos_cons (do_e (de_callB call_len cad_len rfl fr.len boot_len (dos_cons (do_v (pv 3)) dos_nil))) dos_nil)))
    (dss_cons (ds_setLc (own := [("rank", 11)]) (sl := (sl1 5)) rfl nd rfl rfl rfl (blkOk_by (by kernel_rfl)) (by decide) (di_seq (do_v (pv 5)) (tkin_v in_sl1)) (fun _ _ _ _ _ => (dg_name nd rfl (.inl rfl))) (fun _ _ _ _ _ => dts_nil) (fun _ _ _ _ _ => (de_callN h__law_run room hgd rfl (dos_cons (do_v (pv 2)) (dos_cons (do_v (pv 1)) (dos_cons (do_v (pv 3)) (dos_cons (do_v (pv 11)) dos_nil)))))))
    (dss_cons (ds_setLc (own := [("run", 12)]) (sl := (sl1 6)) rfl nd rfl rfl rfl (blkOk_by (by kernel_rfl)) (by decide) (di_seq (do_v (pv 6)) (tkin_v in_sl1)) (fun _ _ _ _ _ => (dg_name nd rfl (.inl rfl))) (fun _ _ _ _ _ => dts_nil) (fun _ _ _ _ _ => (de_callN h__law_greatest room hgd rfl (dos_cons (do_v (pv 3)) (dos_cons (do_v (pv 12)) dos_nil)))))
    (dss_cons (ds_setLc (own := [("number", 23)]) (sl := (sl1 7)) rfl nd rfl rfl rfl (blkOk_by (by kernel_rfl)) (by decide) (di_seq (do_v (pv 7)) (tkin_v in_sl1)) (fun _ _ _ _ _ => (dg_name nd rfl (.inl rfl))) (fun _ _ _ _ _ => (dts_one (dt_cmp op_notN opd_isNotN (do_v (pv 23)) (do_e de_non) rfl))) (fun _ _ _ _ _ => (de_v (pv 23))))
    (dss_cons (ds_set nd rfl (.inl rfl) (de_callN h_fairest room hgd rfl (dos_cons (do_v (pv 2)) (dos_cons (do_v (pv 1)) (dos_cons (do_v (pv 3)) dos_nil)))))
    (dss_cons (ds_if (PW.pt (dw_or (dt_cmp (op_neD (room_hu4 room)) opd_ne (do_e (de_cmp op_isN opd_isN (do_v (pv 9)) (do_e de_non) rfl)) (do_e (de_cmp (op_eqD (room_hu4 room)) opd_eq (do_v (pv 8)) (do_e (de_lst dos_nil)) rfl)) rfl) (dw_or1 (dt_cmp op_notBl opd_isNotB (do_e (de_callN h_shows_fairest room hgd rfl (dos_cons (do_v (pv 2)) (dos_cons (do_v (pv 1)) (dos_cons (do_v (pv 3)) (dos_cons (do_v (pv 9)) dos_nil)))))) (do_e de_bl) rfl)))) (dss_one (ds_ret de_bl)) dss_nil)
    (dss_cons (ds_if (PW.pt (dw_and (dt_cmp op_notN opd_isNotN (do_v (pv 9)) (do_e de_non) rfl) (dw_and1 (PW.pt (dw_or (dt_cmp (op_neD (room_hu4 room)) opd_ne (do_e (de_callB (call_reprX hgd (room_hu6 room)) cad_repr rfl fr.repr boot_repr (dos_cons (do_e (de_ix (ix_2 (room_hu room)) opd_ix2 (do_v (pv 9)) (do_e de_int) (fun _ _ => rfl))) dos_nil))) (do_e (de_callB (call_reprX hgd (room_hu6 room)) cad_repr rfl fr.repr boot_repr (dos_cons (do_e (de_callB (cr_min rfl) cad_min rfl fr.min boot_min (dos_cons (do_v (pv 8)) dos_nil))) dos_nil))) rfl) (dw_or1 (dt_cmp (op_neD (room_hu4 room)) opd_ne (do_e (de_ix (ix_2 (room_hu room)) opd_ix2 (do_v (pv 7)) (do_e (de_ml PySem.F.slot_list_index PySem.F.type_list_index (mt_indexD (room_hu room)) med_lidx (do_v (pv 5)) (dos_cons (do_e (de_ix (ix_2 (room_hu room)) opd_ix2 (do_v (pv 9)) (do_e de_int) (fun _ _ => rfl))) dos_nil))) (fun _ _ => rfl))) (do_e (de_ix (ix_2 (room_hu room)) opd_ix2 (do_v (pv 9)) (do_e de_int) (fun _ _ => rfl))) rfl))))))) (dss_one (ds_ret de_bl)) dss_nil)
    (dss_cons (ds_for (sl := sl0) PassesOwn.never rfl (di_range1 rfl fr.range (dos_cons (do_e de_int) dos_nil)) (dg_name nd rfl (.inl rfl)) (dss_cons (ds_set nd rfl (.inl rfl) (de_callN h__law_take room hgd rfl (dos_cons (do_v (pv 0)) (dos_cons (do_e (de_callB call_len cad_len rfl fr.len boot_len (dos_cons (do_v (pv 5)) dos_nil))) dos_nil))))
    (dss_cons (ds_if (PW.pt (dw_and (dt_cmp (op_neD (room_hu4 room)) opd_ne (do_v (pv 8)) (do_e (de_lst dos_nil)) rfl) (dw_and1 (dt_cmp (op_neD (room_hu4 room)) opd_ne (do_e (de_callN h_shows_fairest room hgd rfl (dos_cons (do_v (pv 2)) (dos_cons (do_v (pv 1)) (dos_cons (do_v (pv 3)) (dos_cons (do_e (de_tup (dos_cons (do_e (de_callB (cr_min rfl) cad_min rfl fr.min boot_min (dos_cons (do_v (pv 8)) dos_nil))) (dos_cons (do_e (de_ix (ix_2 (room_hu room)) opd_ix2 (do_v (pv 5)) (do_v (pv 17)) (fun _ _ => rfl))) dos_nil)))) dos_nil)))))) (do_e (de_cmp (op_eqD (room_hu4 room)) opd_eq (do_e (de_ix (ix_2 (room_hu room)) opd_ix2 (do_v (pv 7)) (do_v (pv 17)) (fun _ _ => rfl))) (do_e (de_callB (cr_min rfl) cad_min rfl fr.min boot_min (dos_cons (do_v (pv 8)) dos_nil))) rfl)) rfl)))) (dss_one (ds_ret de_bl)) dss_nil)
    (dss_cons (ds_if (dt_cmp (op_neD (room_hu4 room)) opd_ne (do_e (de_callB (call_reprX hgd (room_hu6 room)) cad_repr rfl fr.repr boot_repr (dos_cons (do_e (de_callN h_given_in room hgd rfl (dos_cons (do_v (pv 2)) (dos_cons (do_v (pv 1)) (dos_cons (do_v (pv 3)) (dos_cons (do_e (de_ix (ix_2 (room_hu room)) opd_ix2 (do_v (pv 5)) (do_v (pv 17)) (fun _ _ => rfl))) dos_nil)))))) dos_nil))) (do_e (de_callB (call_reprX hgd (room_hu6 room)) cad_repr rfl fr.repr boot_repr (dos_cons (do_e (de_ix (ix_2 (room_hu room)) opd_ix2 (do_v (pv 6)) (do_v (pv 17)) (fun _ _ => rfl))) dos_nil))) rfl) (dss_one (ds_ret de_bl)) dss_nil)
    (dss_cons (ds_set nd rfl (.inl rfl) (de_callN h_longest_wait room hgd rfl (dos_cons (do_v (pv 2)) (dos_cons (do_v (pv 1)) (dos_cons (do_v (pv 3)) (dos_cons (do_e (de_ix (ix_2 (room_hu room)) opd_ix2 (do_v (pv 5)) (do_v (pv 17)) (fun _ _ => rfl))) dos_nil))))))
    (dss_cons (ds_if (dt_cmp (op_neD (room_hu4 room)) opd_ne (do_e (de_callB (call_reprX hgd (room_hu6 room)) cad_repr rfl fr.repr boot_repr (dos_cons (do_e (de_if (dt_cmp op_isN opd_isN (do_v (pv 18)) (do_e de_non) rfl) de_non (de_ix (ix_2 (room_hu room)) opd_ix2 (do_v (pv 18)) (do_e de_int) (fun _ _ => rfl)))) dos_nil))) (do_e (de_callB (call_reprX hgd (room_hu6 room)) cad_repr rfl fr.repr boot_repr (dos_cons (do_e (de_ix (ix_2 (room_hu room)) opd_ix2 (do_v (pv 7)) (do_v (pv 17)) (fun _ _ => rfl))) dos_nil))) rfl) (dss_one (ds_ret de_bl)) dss_nil)
    (dss_one (ds_if (PW.pt (dw_and (dt_cmp (op_neD (room_hu4 room)) opd_ne (do_v (pv 8)) (do_e (de_lst dos_nil)) rfl) (dw_and1 (dt_cmp op_notBl opd_isNotB (do_e (de_callN h_shows_fairest room hgd rfl (dos_cons (do_v (pv 2)) (dos_cons (do_v (pv 1)) (dos_cons (do_v (pv 3)) (dos_cons (do_e (de_tup (dos_cons (do_e (de_op Dn.op_addX opd_add (do_e (de_callB (cr_min rfl) cad_min rfl fr.min boot_min (dos_cons (do_v (pv 8)) dos_nil))) (do_e de_int))) (dos_cons (do_e (de_ix (ix_2 (room_hu room)) opd_ix2 (do_v (pv 5)) (do_v (pv 17)) (fun _ _ => rfl))) dos_nil)))) dos_nil)))))) (do_e de_bl) rfl)))) (dss_one (ds_ret de_bl)) dss_nil))))))))
    (dss_cons (ds_for (sl := sl0) PassesOwn.never rfl (di_seq (do_e (de_callN h__law_some room hgd rfl (dos_cons (do_v (pv 0)) (dos_cons (do_e (de_callN h__law_places room hgd rfl (dos_cons (do_v (pv 3)) dos_nil))) (dos_cons (do_e de_int) dos_nil))))) tkin_e) (dg_name nd rfl (.inr rfl)) (dss_cons (ds_setLc (own := [("run", 12)]) (sl := (sl1 6)) rfl nd rfl rfl rfl (blkOk_by (by kernel_rfl)) (by decide) (di_seq (do_v (pv 6)) (tkin_v in_sl1)) (fun _ _ _ _ _ => (dg_name nd rfl (.inl rfl))) (fun _ _ _ _ _ => (dts_one (dt_cmp op_notN opd_isNotN (do_e (de_ix (ix_2 (room_hu room)) opd_ix2 (do_v (pv 12)) (do_v (pv 10)) (fun _ _ => rfl))) (do_e de_non) rfl))) (fun _ _ _ _ _ => (de_ix (ix_2 (room_hu room)) opd_ix2 (do_v (pv 12)) (do_v (pv 10)) (fun _ _ => rfl))))
    (dss_cons (ds_set nd rfl (.inl rfl) (de_if (dt_cmp (op_neD (room_hu4 room)) opd_ne (do_v (pv 19)) (do_e (de_lst dos_nil)) rfl) (de_callB (cr_min rfl) cad_min rfl fr.min boot_min (dos_cons (do_v (pv 19)) dos_nil)) de_non))
    (dss_cons (ds_if (dt_cmp (op_neD (room_hu4 room)) opd_ne (do_e (de_callB (call_reprX hgd (room_hu6 room)) cad_repr rfl fr.repr boot_repr (dos_cons (do_e (de_callN h_best_first room hgd rfl (dos_cons (do_v (pv 2)) (dos_cons (do_v (pv 1)) (dos_cons (do_v (pv 3)) (dos_cons (do_v (pv 10)) dos_nil)))))) dos_nil))) (do_e (de_callB (call_reprX hgd (room_hu6 room)) cad_repr rfl fr.repr boot_repr (dos_cons (do_v (pv 20)) dos_nil))) rfl) (dss_one (ds_ret de_bl)) dss_nil)
    (dss_one (ds_for (sl := sl0) PassesOwn.never rfl (di_seq (do_e (de_setSortL rfl (do_e (de_lst (dos_cons (do_e de_int) (dos_cons (do_e (de_callB (call_max2 rfl) cad_ii2 rfl fr.max boot_max (dos_cons (do_e de_int) (dos_cons (do_e (de_op op_sub opd_sub (do_e (de_orT (de_v (pv 20)) (de_one de_int))) (do_e de_int))) dos_nil)))) (dos_cons (do_e (de_orT (de_v (pv 20)) (de_one de_int))) dos_nil))))) rfl fr.sorted rfl fr.set)) tkin_e) (dg_name nd rfl (.inr rfl)) (dss_cons (ds_set nd rfl (.inl rfl) (de_callN h_rank_told room hgd rfl (dos_cons (do_v (pv 2)) (dos_cons (do_v (pv 1)) (dos_cons (do_v (pv 3)) (dos_cons (do_v (pv 10)) (dos_cons (do_e (de_callTy call_int1 cad_intOf rfl fr.int boot_int (dos_cons (do_v (pv 15)) dos_nil))) dos_nil)))))))
    (dss_cons (ds_if (PW.pt (dw_or (dt_cmp (op_neD (room_hu4 room)) opd_ne (do_e (de_cmp (op_eqD (room_hu4 room)) opd_eq (do_e (de_ix (ix_2 (room_hu room)) opd_ix2 (do_v (pv 22)) (do_e de_int) (fun _ _ => rfl))) (do_e de_str) rfl)) (do_e (de_and (de_cmp op_notN opd_isNotN (do_v (pv 20)) (do_e de_non) rfl) (de_one (de_cmp op_le opd_le (do_v (pv 20)) (do_v (pv 15)) rfl)))) rfl) (dw_or1 (dt_cmp op_notBl opd_isNotB (do_e (de_callN h_shows_rank room hgd rfl (dos_cons (do_v (pv 2)) (dos_cons (do_v (pv 1)) (dos_cons (do_v (pv 3)) (dos_cons (do_v (pv 10)) (dos_cons (do_e (de_callTy call_int1 cad_intOf rfl fr.int boot_int (dos_cons (do_v (pv 15)) dos_nil))) (dos_cons (do_v (pv 22)) dos_nil)))))))) (do_e de_bl) rfl)))) (dss_one (ds_ret de_bl)) dss_nil)
    (dss_cons (ds_set nd rfl (.inl rfl) (de_callN h__law_take room hgd rfl (dos_cons (do_v (pv 0)) (dos_cons (do_e (de_callB call_len cad_len rfl fr.len boot_len (dos_cons (do_v (pv 5)) dos_nil))) dos_nil))))
    (dss_cons (ds_if (dt_cmp (op_neD (room_hu4 room)) opd_ne (do_e (de_callN h_shows_rank room hgd rfl (dos_cons (do_v (pv 2)) (dos_cons (do_v (pv 1)) (dos_cons (do_v (pv 3)) (dos_cons (do_v (pv 10)) (dos_cons (do_e (de_callTy call_int1 cad_intOf rfl fr.int boot_int (dos_cons (do_v (pv 15)) dos_nil))) (dos_cons (do_e (de_tup (dos_cons (do_e de_str) (dos_cons (do_e (de_ix (ix_2 (room_hu room)) opd_ix2 (do_v (pv 5)) (do_v (pv 17)) (fun _ _ => rfl))) dos_nil)))) dos_nil)))))))) (do_e (de_and (de_cmp op_notN opd_isNotN (do_e (de_ix (ix_2 (room_hu room)) opd_ix2 (do_e (de_ix (ix_2 (room_hu room)) opd_ix2 (do_v (pv 6)) (do_v (pv 17)) (fun _ _ => rfl))) (do_v (pv 10)) (fun _ _ => rfl))) (do_e de_non) rfl) (de_one (de_cmp op_le opd_le (do_e (de_ix (ix_2 (room_hu room)) opd_ix2 (do_e (de_ix (ix_2 (room_hu room)) opd_ix2 (do_v (pv 6)) (do_v (pv 17)) (fun _ _ => rfl))) (do_v (pv 10)) (fun _ _ => rfl))) (do_v (pv 15)) rfl)))) rfl) (dss_one (ds_ret de_bl)) dss_nil)
    (dss_one (ds_if (dt_cmp (op_neD (room_hu4 room)) opd_ne (do_e (de_callN h_shows_rank room hgd rfl (dos_cons (do_v (pv 2)) (dos_cons (do_v (pv 1)) (dos_cons (do_v (pv 3)) (dos_cons (do_v (pv 10)) (dos_cons (do_e (de_callTy call_int1 cad_intOf rfl fr.int boot_int (dos_cons (do_v (pv 15)) dos_nil))) (dos_cons (do_e (de_tup (dos_cons (do_e de_str) dos_nil))) dos_nil)))))))) (do_e (de_cmp (op_eqD (room_hu4 room)) opd_eq (do_e (de_ix (ix_2 (room_hu room)) opd_ix2 (do_v (pv 22)) (do_e de_int) (fun _ _ => rfl))) (do_e de_str) rfl)) rfl) (dss_one (ds_ret de_bl)) dss_nil))))))))))))
    (dss_cons (ds_if (dt_cmp (op_eqD (room_hu4 room)) opd_eq (do_v (pv 3)) (do_e (de_tup dos_nil)) rfl) (dss_one (ds_ret (de_cmp op_isBl opd_isB (do_e (de_callN h_shows_fairest room hgd rfl (dos_cons (do_v (pv 2)) (dos_cons (do_v (pv 1)) (dos_cons (do_v (pv 3)) (dos_cons (do_e (de_tup (dos_cons (do_e de_int) (dos_cons (do_e (de_tup dos_nil)) dos_nil)))) dos_nil)))))) (do_e de_bl) rfl))) dss_nil)
    (dss_cons (ds_set nd rfl (.inl rfl) (de_callN h__law_of room hgd rfl (dos_cons (do_v (pv 0)) (dos_cons (do_v (pv 5)) dos_nil))))
    (dss_cons (ds_asg (de_tup (dos_cons (do_e (de_ix (ix_2 (room_hu room)) opd_ix2 (do_v (pv 6)) (do_e (de_ml PySem.F.slot_list_index PySem.F.type_list_index (mt_indexD (room_hu room)) med_lidx (do_v (pv 5)) (dos_cons (do_v (pv 11)) dos_nil))) (fun _ _ => rfl))) (dos_cons (do_e (de_ix (ix_2 (room_hu room)) opd_ix2 (do_v (pv 11)) (do_e de_int) (fun _ _ => rfl))) dos_nil))) (dg_tup rfl (dgs_cons (dg_name nd rfl (.inl rfl)) (dgs_cons (dg_name nd rfl (.inr rfl)) dgs_nil))))
    (dss_cons (ds_set nd rfl (.inl rfl) (de_op Dn.op_addX opd_add (do_e (de_ix (ix_2 (room_hu room)) opd_ix2 (do_e (de_ix (ix_2 (room_hu room)) opd_ix2 (do_v (pv 3)) (do_v (pv 10)) (fun _ _ => rfl))) (do_e de_int) (fun _ _ => rfl))) (do_e (de_ix (ix_2 (room_hu room)) opd_ix2 (do_e (de_ix (ix_2 (room_hu room)) opd_ix2 (do_v (pv 3)) (do_v (pv 10)) (fun _ _ => rfl))) (do_e de_int) (fun _ _ => rfl)))))
    (dss_cons (ds_set nd rfl (.inl rfl) (de_lst dos_nil))
    (dss_cons (ds_for (sl := sl0) PassesOwn.never rfl (di_range2 rfl fr.range (dos_cons (do_v (pv 13)) (dos_cons (do_e de_int) dos_nil))) (dg_name nd rfl (.inr rfl)) (dss_cons (ds_set nd rfl (.inl rfl) (de_op Dn.op_addX opd_add (do_e (de_callB call_len cad_len rfl fr.len boot_len (dos_cons (do_e (de_comp (own := [("last", 24)]) (sl := (sl1 1)) rfl nd (blkOk_by (by kernel_rfl)) (by decide) (di_seq (do_v (pv 1)) (tkin_v in_sl1)) (fun _ _ _ _ _ => (dg_name nd rfl (.inl rfl))) (fun _ _ _ _ _ => (dts_one (dt_cmp op_gt opd_gt (do_v (pv 24)) (do_v (pv 15)) rfl))) (fun _ _ _ _ _ => (de_v (pv 24))))) dos_nil))) (do_e (de_callB call_len cad_len rfl fr.len boot_len (dos_cons (do_e (de_comp (own := [("far", 25), ("its", 22)]) (sl := (sl1 12)) rfl nd (blkOk_by (by kernel_rfl)) (by decide) (di_enum rfl fr.enumerate (dos_cons (do_v (pv 12)) dos_nil) (tkins_cons (tkin_v in_sl1) tkins_nil)) (fun _ _ _ _ _ => (dg_tup rfl (dgs_cons (dg_name nd rfl (.inl rfl)) (dgs_cons (dg_name nd rfl (.inl rfl)) dgs_nil)))) (fun _ _ _ _ _ => (dts_one (PW.pt (dw_and (dt_cmp (op_neD (room_hu4 room)) opd_ne (do_v (pv 25)) (do_v (pv 10)) rfl) (dw_and (dt_cmp op_notN opd_isNotN (do_v (pv 22)) (do_e de_non) rfl) (dw_and1 (dt_chain (Dn.op_ltX room.units0) opd_lt (Dn.op_ltX room.units0) opd_lt (do_v (pv 22)) (do_v (pv 15)) (do_e (de_op Dn.op_addX opd_add (do_v (pv 22)) (do_e (de_ix (ix_2 (room_hu room)) opd_ix2 (do_e (de_ix (ix_2 (room_hu room)) opd_ix2 (do_v (pv 3)) (do_v (pv 25)) (fun _ _ => rfl))) (do_e de_int) (fun _ _ => rfl)))))))))))) (fun _ _ _ _ _ => de_int))) dos_nil)))))
    (dss_one (ds_expr (de_mut1 PySem.F.slot_list_extend PySem.F.type_list_extend mt_extend mud_ext (pv 14) (de_if (dt_cmp (Dn.op_ltX room.units0) opd_lt (do_v (pv 21)) (do_v (pv 2)) rfl) (de_lst (dos_cons (do_e (de_v (pv 15))) dos_nil)) (de_lst dos_nil)))))))
    (dss_one (ds_ret (de_or (de_and (de_cmp op_isN opd_isN (do_e (de_ix (ix_2 (room_hu room)) opd_ix2 (do_v (pv 12)) (do_v (pv 10)) (fun _ _ => rfl))) (do_e de_non) rfl) (de_one (de_cmp (op_eqD (room_hu4 room)) opd_eq (do_v (pv 14)) (do_e (de_lst dos_nil)) rfl))) (de_one (de_and (de_cmp op_notN opd_isNotN (do_e (de_ix (ix_2 (room_hu room)) opd_ix2 (do_v (pv 12)) (do_v (pv 10)) (fun _ _ => rfl))) (do_e de_non) rfl) (de_one (de_cmp (op_eqD (room_hu4 room)) opd_eq (do_e (de_ix (ix_2 (room_hu room)) opd_ix2 (do_v (pv 12)) (do_v (pv 10)) (fun _ _ => rfl))) (do_e (de_ix (ix_2 (room_hu room)) opd_ix2 (do_v (pv 14)) (do_e de_int) (fun _ _ => rfl))) rfl))))))))))))))))))))))))))
theorem sc_law : FnScope ["script", "place", "pot", "lap"] ["script"] (defScope (top 64)) := ⟨rfl, rfl, rfl, by decide +kernel, rfl, by decide +kernel, by decide +kernel⟩
theorem ok_law (F : FunD K "law" "law" (defArgs (top 64)) (defBody (top 64)) (defScope (top 64)) [] [] f fd) (hm : mg "law" = some (.ref f)) (fr : Fr mg) (h__law_cells : Has P w K mg base 1 "_law_cells" F__law_cells) (h__law_pot : Has P w K mg base 1 "_law_pot" F__law_pot) (h__law_right : Has P w K mg base 9 "_law_right" F__law_right) : Has P w K mg base 10 "law" F_law := by
  have nd := sc_law.nd
  refine hasF F hm (F.bindsN (ps := ["script"]) fun _ _ _ _ _ _ us hl => match us, hl with | [_], _ => rfl) sc_law rfl rfl fun cd A fr_ s H E room hgd pin => ?_
  exact (dss_cons (ds_for (sl := sl0) PassesOwn.never rfl (di_seq (do_e (de_callN h__law_cells room hgd rfl (dos_cons (do_v (pv 0)) (dos_cons (do_e de_int) dos_nil)))) tkin_e) (dg_name nd rfl (.inl rfl)) (dss_cons (ds_set nd rfl (.inr rfl) (de_callN h__law_pot room hgd rfl (dos_cons (do_v (pv 0)) (dos_cons (do_v (pv 1)) dos_nil))))
    (dss_one (ds_if (dt_not (dt_val (de_callB (cr_all rfl) cad_all rfl fr.all boot_all (dos_cons (do_e (de_comp (own := [("lap", 3)]) (sl := sl0) rfl nd (blkOk_by (by kernel_rfl)) (by decide) (di_range1 rfl fr.range (dos_cons (do_e de_int) dos_nil)) (fun _ _ _ _ _ => (dg_name nd rfl (.inl rfl))) (fun _ _ _ _ _ => dts_nil) (fun _ _ _ _ _ => (de_callN h__law_right room hgd rfl (dos_cons (do_v (pv 2)) dos_nil))))) dos_nil)))) (dss_one (ds_ret de_bl)) dss_nil))))
    (dss_one (ds_ret de_bl)))
theorem g_law (F : FunD K "law" "law" (defArgs (top 64)) (defBody (top 64)) (defScope (top 64)) [] [] f fd) (fr : Fr mg) (h__law_cells : Has P w K mg base 1 "_law_cells" F__law_cells) (h__law_pot : Has P w K mg base 1 "_law_pot" F__law_pot) (h__law_right : Has P w K mg base 9 "_law_right" F__law_right) : FnG P w K mg base 10 f fd ["script"] (spF K F_law) := by
  have nd := sc_law.nd
  refine fnF F sc_law rfl rfl fun cd A fr_ s H E room hgd pin => ?_
  exact (dss_cons (ds_for (sl := sl0) PassesOwn.never rfl (di_seq (do_e (de_callN h__law_cells room hgd rfl (dos_cons (do_v (pv 0)) (dos_cons (do_e de_int) dos_nil)))) tkin_e) (dg_name nd rfl (.inl rfl)) (dss_cons (ds_set nd rfl (.inr rfl) (de_callN h__law_pot room hgd rfl (dos_cons (do_v (pv 0)) (dos_cons (do_v (pv 1)) dos_nil))))
    (dss_one (ds_if (dt_not (dt_val (de_callB (cr_all rfl) cad_all rfl fr.all boot_all (dos_cons (do_e (de_comp (own := [("lap", 3)]) (sl := sl0) rfl nd (blkOk_by (by kernel_rfl)) (by decide) (di_range1 rfl fr.range (dos_cons (do_e de_int) dos_nil)) (fun _ _ _ _ _ => (dg_name nd rfl (.inl rfl))) (fun _ _ _ _ _ => dts_nil) (fun _ _ _ _ _ => (de_callN h__law_right room hgd rfl (dos_cons (do_v (pv 2)) dos_nil))))) dos_nil)))) (dss_one (ds_ret de_bl)) dss_nil))))
    (dss_one (ds_ret de_bl)))
end
end K59
end
section
namespace K59
open PySem PySem.Spec L2 Dn
/-! ### draws -/
def potD (o m c : Int) : D := .lst [.int o, .int m, .int c]
def PotOk (n : Nat) (d : D) : Prop := ∃ o m c : Int, d = potD o m c ∧ 0 ≤ m ∧ m < 2 ^ 61 ∧ 0 ≤ c ∧ c ≤ n
theorem PotOk.mono {m n : Nat} {d : D} (h : PotOk m d) (hn : m ≤ n) : PotOk n d := by
  obtain ⟨o, a, c, e, h1, h2, h3, h4⟩ := h
  exact ⟨o, a, c, e, h1, h2, h3, by omega⟩
theorem take1 {o m c u : Int} (ho : 0 < o) (hu : 0 < u) (hu2 : u ≤ 1000000) : F__law_take [potD o m c, .int u] [true, false] = some (.int (o % u), [some (potD (o / u) m c), none]) := by
  have h3 : u < 1073741824 := by omega
  simp [F__law_take, mkF, B__law_take, potD, op_mod_ii, op_fdiv_ii, ho, hu, h3, outs, ixN]
theorem small_of {i : Int} (h : 0 ≤ i) (h2 : i < 2 ^ 64) : Dn.small64 i = true := by
  unfold Dn.small64
  exact decide_eq_true ⟨by omega, by omega⟩
theorem pow_ok {x : Int} (h : 0 ≤ x) (h2 : x < 2 ^ 200) : powD (.int x) (.int 3) = some (.int (x ^ 3)) := by
  refine if_pos ⟨by decide, by decide, ?_⟩
  have h3 : x.natAbs < 2 ^ 200 := by omega
  exact Nat.lt_trans h3 (Nat.pow_lt_pow_right (by decide) (by decide))
theorem take2 {o m c u : Int} (ho : ¬ 0 < o) (hm : 0 ≤ m) (hm2 : m < 2 ^ 61) (hc : 0 ≤ c) (hc2 : c < 1000000000) (hu : 0 < u) : ∃ k : Int, 0 ≤ k ∧ k < u ∧ F__law_take [potD o m c, .int u] [true, false] = some (.int k, [some (potD o m (c + 1)), none]) := by
  obtain ⟨r, hr, hr1, hr2⟩ : ∃ r : Int, (L2.atI [D.int 2147483647, .int 2147483629, .int 2147483587, .int 2147483579] ((c + 1) % 4)) = some (.int r) ∧ 0 < r ∧ r < 2147483648 := by
    have h4 : (c + 1) % 4 = 0 ∨ (c + 1) % 4 = 1 ∨ (c + 1) % 4 = 2 ∨ (c + 1) % 4 = 3 := by omega
    rcases h4 with h | h | h | h <;> rw [h] <;> exact ⟨_, rfl, by decide, by decide⟩
  have sq : 0 ≤ (c + 1) * (c + 1) ∧ (c + 1) * (c + 1) ≤ 1000000000 * 1000000000 := ⟨Int.mul_nonneg (by omega) (by omega), Int.mul_le_mul (by omega) (by omega) (by omega) (by decide)⟩
  have e1 : 114113 * (c + 1) * (c + 1) = 114113 * ((c + 1) * (c + 1)) := Int.mul_assoc ..
  have hx : 0 ≤ m + 114113 * (c + 1) * (c + 1) + 5263 := by rw [e1]; omega
  have hx2 : m + 114113 * (c + 1) * (c + 1) + 5263 < 2 ^ 200 := by
    rw [e1]
    have : (2 : Int) ^ 200 > 114113 * (1000000000 * 1000000000) + 2 ^ 61 + 5263 := by decide
    omega
  have p := pow_ok hx hx2
  have m1 : mulD (.int 114113) (.int (c + 1)) = some (.int (114113 * (c + 1))) := op_mul_ii (by simp [small_of (i := 114113) (by decide) (by decide)])
  have m2 : mulD (.int (114113 * (c + 1))) (.int (c + 1)) = some (.int (114113 * (c + 1) * (c + 1))) := op_mul_ii (by simp [small_of (i := c + 1) (by omega) (by omega)])
  have m3 : mulD (.int 3551) (.int (c + 1)) = some (.int (3551 * (c + 1))) := op_mul_ii (by simp [small_of (i := 3551) (by decide) (by decide)])
  have d4 : modD (.int (c + 1)) (.int 4) = some (.int ((c + 1) % 4)) := op_mod_ii (by decide)
  generalize hb : (m + 114113 * (c + 1) * (c + 1) + 5263) ^ 3 % r = b
  have db : modD (.int ((m + 114113 * (c + 1) * (c + 1) + 5263) ^ 3)) (.int r) = some (.int b) := by rw [op_mod_ii hr1, hb]
  have b1 : 0 ≤ b := by rw [← hb]; exact Int.emod_nonneg _ (by omega)
  have b2 : b < r := by rw [← hb]; exact Int.emod_lt_of_pos _ hr1
  have dc : modD (.int b) (.int 10007) = some (.int (b % 10007)) := op_mod_ii (by decide)
  have m4 : ∀ y : Int, mulD (.int b) (.int y) = some (.int (b * y)) := fun y => op_mul_ii (by simp [small_of (i := b) b1 (by omega)])
  have q : ∀ y : Int, fdivD (.int y) (.int 307) = some (.int (y / 307)) := fun y => op_fdiv_ii (by decide) (by decide)
  have du : ∀ y : Int, modD (.int y) (.int u) = some (.int (y % u)) := fun y => op_mod_ii hu
  refine ⟨b * (b % 10007 + 3551 * (c + 1)) / 307 % u, Int.emod_nonneg _ (by omega), Int.emod_lt_of_pos _ hu, ?_⟩
  simp [F__law_take, mkF, B__law_take, potD, ho, outs, ixN, hr, p, m1, m2, m3, m4, d4, db, dc, q, du]
theorem take_ok {n : Nat} {d : D} {u : Int} (h : PotOk n d) (hn : n < 1000000000) (hu : 0 < u) (hu2 : u ≤ 1000000) : ∃ (k : Nat) (d' : D), (k : Int) < u ∧ PotOk (n + 1) d' ∧ F__law_take [d, .int u] [true, false] = some (.int k, [some d', none]) := by
  obtain ⟨o, m, c, rfl, h1, h2, h3, h4⟩ := h
  by_cases ho : 0 < o
  · have k1 := Int.emod_nonneg o (show u ≠ 0 by omega)
    have k2 := Int.emod_lt_of_pos o hu
    refine ⟨(o % u).toNat, potD (o / u) m c, by omega, ⟨_, m, c, rfl, h1, h2, h3, by omega⟩, ?_⟩
    rw [Int.toNat_of_nonneg k1]
    exact take1 ho hu hu2
  · obtain ⟨k, k1, k2, e⟩ := take2 ho h1 h2 h3 (by omega) hu
    refine ⟨k.toNat, potD o m (c + 1), by omega, ⟨o, m, c + 1, rfl, h1, h2, by omega, by omega⟩, ?_⟩
    rw [Int.toNat_of_nonneg k1]
    exact e
theorem powD_ii {i j : Int} (h : 0 ≤ j ∧ j ≤ 100 ∧ i.natAbs < 2 ^ 1000) : powD (.int i) (.int j) = some (.int (i ^ j.toNat)) := if_pos h
theorem pows : ∃ A B C : Int, powD (.int 10) (.int 60) = some (.int A) ∧ powD (.int A) (.int 5) = some (.int B) ∧ powD (.int 10) (.int 18) = some (.int C) ∧ 0 < B :=
  ⟨_, _, _, powD_ii ⟨by decide, by decide, by decide +kernel⟩, powD_ii ⟨by decide, by decide, by decide +kernel⟩, powD_ii ⟨by decide, by decide, by decide +kernel⟩, by decide +kernel⟩
theorem cut01 {α : Type} (xs : List α) : cutD xs none (some 1) = xs.take 1 := by
  unfold cutD
  have e : HT.sIx xs.length xs.length (some 1) = min 1 xs.length := rfl
  have e2 : HT.sIx xs.length 0 none = 0 := rfl
  rw [e, e2, List.drop_zero, Nat.sub_zero]
  cases xs with
  | nil => rfl
  | cons x xs => simp
section
variable {E : Dn.Env} {x y : EX} {a b c : Int} {i : Nat}
theorem two_ee {o : D → D → Option D} {d : D} (h1 : x E = some (.int a, E)) (h2 : y E = some (.int b, E)) (h3 : o (.int a) (.int b) = some d) : (eOp2 o (oE x) (oE y)) E = some (d, E) := by
  simp only [ev_eOp2, ev_oE, h1, h2, Option.map_some, Option.bind_some, ev_rd_own, h3]
theorem two_ev {o : D → D → Option D} {d : D} (h1 : x E = some (.int a, E)) (h2 : E[i]? = some (some (.int b))) (h3 : o (.int a) (.int b) = some d) : (eOp2 o (oE x) (oV i)) E = some (d, E) := by
  simp only [ev_eOp2, ev_oE, ev_oV, h1, h2, Option.map_some, Option.bind_some, ev_rd_own, ev_rd_slot, h3]
theorem two_ve {o : D → D → Option D} {d : D} (h1 : E[i]? = some (some (.int a))) (h2 : y E = some (.int b, E)) (h3 : o (.int a) (.int b) = some d) : (eOp2 o (oV i) (oE y)) E = some (d, E) := by
  simp only [ev_eOp2, ev_oE, ev_oV, h1, h2, Option.map_some, Option.bind_some, ev_rd_own, ev_rd_slot, h3]
theorem one_e {o : List D → Option D} {d e : D} (h1 : x E = some (d, E)) (h : o [d] = some e) : eCa o (osCons (oE x) osNil) E = some (e, E) := by
  simp only [ev_eCa, ev_osCons, ev_oE, ev_osNil, h1, Option.map_some, Option.bind_some, ev_rds_cons, ev_rds_nil, ev_rd_own, h]
theorem one_v {o : List D → Option D} {d e : D} (h1 : E[i]? = some (some d)) (h : o [d] = some e) : eCa o (osCons (oV i) osNil) E = some (e, E) := by
  simp only [ev_eCa, ev_osCons, ev_oV, ev_osNil, h1, Option.map_some, Option.bind_some, ev_rds_cons, ev_rds_nil, ev_rd_slot, h]
end
theorem pot_ok (zs : List Int) {j : Nat} (hj : j < 3) : ∃ d, PotOk 0 d ∧ F__law_pot [.frz (zs.map D.int), .int j] [false, false] = some (d, [none, none]) := by
  obtain ⟨T1, T2, T3, pow1, pow2, pow3, tpos⟩ := pows
  obtain ⟨cell, hc⟩ : ∃ cell : Int, (eIf (bE (eOp2 ltD (oV 1) (oE (eCa lenD (osCons (oV 0) osNil))))) (eOp2 ixD2 (oV 0) (oV 1)) (eOp2 addD (oE (eOp2 addD (oE (eOp2 modD (oE (eCa intOfD (osCons (oE (eCa sumD (osCons (oE (eSl slD (oV 0) pNo (pE (eK (.int 1))))) osNil))) osNil))) (oE (eK (.int 1000003))))) (oE (eOp2 mulD (oE (eK (.int 5291))) (oV 1))))) (oE (eK (.int 9143)))))
      [some (.frz (zs.map D.int)), some (.int j), none, none, none] = some (.int cell, [some (.frz (zs.map D.int)), some (.int j), none, none, none]) := by
    by_cases h : j < zs.length
    · have g : zs[j]? = some zs[j] := List.getElem?_eq_getElem h
      have h2 : ((j : Int) < (zs.length : Int)) := by omega
      exact ⟨zs[j], by simp [h2, Dn.atI_nat, g]⟩
    · have h2 : ¬ ((j : Int) < (zs.length : Int)) := by omega
      have m : mulD (.int 5291) (.int j) = some (.int (5291 * j)) := op_mul_ii (by simp [small_of (i := 5291) (by decide) (by decide)])
      have d : ∀ y : Int, modD (.int y) (.int 1000003) = some (.int (y % 1000003)) := fun y => op_mod_ii (by decide)
      have s : sumD [.lst ((zs.map D.int).take 1)] = some (.int (zs.take 1).sum) := by rw [← List.map_take]; exact op_sum_l _
      exact ⟨(zs.take 1).sum % 1000003 + 5291 * j + 9143, by simp [h2, m, d, cut01, s]⟩
  have d1 : ∀ y : Int, modD (.int y) (.int 2305843009213693951) = some (.int (y % 2305843009213693951)) := fun y => op_mod_ii (by decide)
  have d2 : ∀ y : Int, modD (.int y) (.int 2305843009213693921) = some (.int (y % 2305843009213693921)) := fun y => op_mod_ii (by decide)
  have d3 : ∀ y : Int, modD (.int y) (.int T2) = some (.int (y % T2)) := fun y => op_mod_ii tpos
  have m1 : ∀ (y : Int) (b : Bool), mulD (.int y) (.int (if b then 1 else 0)) = some (.int (y * if b then 1 else 0)) := fun y b => op_mul_ii (by cases b <;> simp [small_of (i := 1) (by decide) (by decide), small_of (i := 0) (by decide) (by decide)])
  have m2 : ∀ y : Int, mulD (.int y) (.int 95621) = some (.int (y * 95621)) := fun y => op_mul_ii (by simp [small_of (i := 95621) (by decide) (by decide)])
  have m3 : ∀ y : Int, mulD (.int 15287) (.int y) = some (.int (15287 * y)) := fun y => op_mul_ii (by simp [small_of (i := 15287) (by decide) (by decide)])
  have m4 : ∀ y : Int, mulD (.int y) (.int j) = some (.int (y * j)) := fun y => op_mul_ii (by simp [small_of (i := (j : Int)) (by omega) (by omega)])
  generalize hm : (cell % 2305843009213693951 * 95621 + 15287 * j * j + 7571) % 2305843009213693921 = m
  have n1 : 0 ≤ m := by rw [← hm]; exact Int.emod_nonneg _ (by decide)
  have n2 : m < 2305843009213693921 := by rw [← hm]; exact Int.emod_lt_of_pos _ (by decide)
  generalize ha : (if cell < 0 then -cell else cell) = a
  generalize ho : a % T2 * (if decide (T3 ≤ a) = true then 1 else 0) = o
  refine ⟨potD o m 0, ⟨o, m, 0, rfl, n1, by omega, by decide, by decide⟩, ?_⟩
  have q := m1 (a % T2) (decide (T3 ≤ a))
  rw [ho] at q
  simp only [decide_eq_true_eq] at q
  have B1 : ∀ u v : Option D, (eOp2 mulD (oE (eOp2 modD (oE (eCa intOfD (osCons (oE (eCa absD (osCons (oV 2) osNil))) osNil))) (oE (eOp2 powD (oE (eOp2 powD (oE (eK (.int 10))) (oE (eK (.int 60))))) (oE (eK (.int 5))))))) (oE (eCa intOfD (osCons (oE (eOp2 geD (oE (eCa absD (osCons (oV 2) osNil))) (oE (eOp2 powD (oE (eK (.int 10))) (oE (eK (.int 18))))))) osNil))))
      [some (.frz (zs.map D.int)), some (.int j), some (.int cell), u, v] = some (.int o, [some (.frz (zs.map D.int)), some (.int j), some (.int cell), u, v]) := fun u v => by
    have A : absD [.int cell] = some (.int a) := by rw [op_abs_i, ha]
    refine two_ee (two_ee (one_e (one_v rfl A) rfl) (two_ee (two_ee rfl rfl pow1) rfl pow2) (d3 a)) (one_e (two_ee (one_v rfl A) (two_ee rfl rfl pow3) rfl) rfl) ?_
    simp only [decide_eq_true_eq]
    exact q
  have B2 : ∀ u v : Option D, (eOp2 modD (oE (eCa intOfD (osCons (oV 2) osNil))) (oE (eK (.int 2305843009213693951)))) [some (.frz (zs.map D.int)), some (.int j), some (.int cell), u, v] = some (.int (cell % 2305843009213693951), [some (.frz (zs.map D.int)), some (.int j), some (.int cell), u, v]) := fun u v =>
    two_ee (one_v rfl rfl) rfl (d1 cell)
  have B3 : ∀ (k : Int) (u : Option D), (eOp2 modD (oE (eCa intOfD (osCons (oE (eOp2 addD (oE (eOp2 addD (oE (eOp2 mulD (oV 4) (oE (eK (.int 95621))))) (oE (eOp2 mulD (oE (eOp2 mulD (oE (eK (.int 15287))) (oV 1))) (oV 1))))) (oE (eK (.int 7571))))) osNil))) (oE (eK (.int 2305843009213693921)))) [some (.frz (zs.map D.int)), some (.int j), some (.int cell), u, some (.int k)] =
      some (.int ((k * 95621 + 15287 * j * j + 7571) % 2305843009213693921), [some (.frz (zs.map D.int)), some (.int j), some (.int cell), u, some (.int k)]) := fun k u =>
    two_ee (one_e (two_ee (two_ee (two_ve rfl rfl (m2 k)) (two_ev (two_ev rfl rfl (m3 j)) rfl (m4 _)) rfl) rfl rfl) rfl) rfl (d2 _)
  generalize hk : cell % 2305843009213693951 = k at hm B2
  have C3 := B3 k (some (.int o))
  rw [hm] at C3
  clear B3 d1 d2 d3 m1 m2 m3 m4 hm n2
  simp only [F__law_pot, mkF, B__law_pot]
  generalize (eIf (bE (eOp2 ltD (oV 1) (oE (eCa lenD (osCons (oV 0) osNil))))) (eOp2 ixD2 (oV 0) (oV 1)) (eOp2 addD (oE (eOp2 addD (oE (eOp2 modD (oE (eCa intOfD (osCons (oE (eCa sumD (osCons (oE (eSl slD (oV 0) pNo (pE (eK (.int 1))))) osNil))) osNil))) (oE (eK (.int 1000003))))) (oE (eOp2 mulD (oE (eK (.int 5291))) (oV 1))))) (oE (eK (.int 9143))))) = X0 at hc ⊢
  generalize (eOp2 mulD (oE (eOp2 modD (oE (eCa intOfD (osCons (oE (eCa absD (osCons (oV 2) osNil))) osNil))) (oE (eOp2 powD (oE (eOp2 powD (oE (eK (.int 10))) (oE (eK (.int 60))))) (oE (eK (.int 5))))))) (oE (eCa intOfD (osCons (oE (eOp2 geD (oE (eCa absD (osCons (oV 2) osNil))) (oE (eOp2 powD (oE (eK (.int 10))) (oE (eK (.int 18))))))) osNil)))) = X1 at B1 ⊢
  generalize (eOp2 modD (oE (eCa intOfD (osCons (oV 2) osNil))) (oE (eK (.int 2305843009213693951)))) = X2 at B2 ⊢
  generalize (eOp2 modD (oE (eCa intOfD (osCons (oE (eOp2 addD (oE (eOp2 addD (oE (eOp2 mulD (oV 4) (oE (eK (.int 95621))))) (oE (eOp2 mulD (oE (eOp2 mulD (oE (eK (.int 15287))) (oV 1))) (oV 1))))) (oE (eK (.int 7571))))) osNil))) (oE (eK (.int 2305843009213693921)))) = X3 at C3 ⊢
  simp [hc, B1, B2, C3, outs, potD]
theorem PotOk.imm {n : Nat} {d : D} (h : PotOk n d) : d.imm = false := by
  obtain ⟨o, m, c, rfl, _⟩ := h
  rfl
theorem of_ok {n : Nat} {d : D} {xs : List D} (b : Bool) (h : PotOk n d) (hn : n < 1000000000) (h0 : 0 < xs.length) (hl : xs.length ≤ 1000) (im : ∀ x ∈ xs, x.imm = true) : ∃ (i : Nat) (x : D) (d' : D), xs[i]? = some x ∧ PotOk (n + 1) d' ∧ F__law_of [d, .lst xs] [true, b] = some (x, [some d', if b = true then some (.lst xs) else none]) := by
  obtain ⟨i, d', hi, hd, e⟩ := take_ok h hn (u := xs.length) (by omega) (by omega)
  have hi2 : i < xs.length := by omega
  have g : xs[i]? = some xs[i] := List.getElem?_eq_getElem hi2
  refine ⟨i, xs[i], d', g, hd, ?_⟩
  have im2 := im _ (List.getElem_mem hi2)
  have imd := h.imm
  cases b <;> simp [F__law_of, mkF, B__law_of, outs, ioOf, ioSl, apart, putOuts, e, imd, Dn.atI_nat, g, im2]
theorem cells_ok (zs : List Int) (k : Nat) (hk : k ≤ 10) (hk1 : 1 ≤ k) : ∃ m : Nat, m ≤ k ∧ F__law_cells [.frz (zs.map D.int), .int k] [false, false] = some (.lst ((List.range m).map fun j : Nat => D.int j), [none, none]) := by
  obtain ⟨m, hm, h⟩ : ∃ m : Nat, m ≤ k ∧ (eCa max2D (osCons (oE (eK (.int 1))) (osCons (oE (eCa min2D (osCons (oV 1) (osCons (oE (eCa lenD (osCons (oV 0) osNil))) osNil)))) osNil))) [some (.frz (zs.map D.int)), some (.int k)] = some (.int m, [some (.frz (zs.map D.int)), some (.int k)]) := by
    refine ⟨if (if zs.length < k then zs.length else k) > 1 then (if zs.length < k then zs.length else k) else 1, by split <;> (try split) <;> omega, ?_⟩
    by_cases c : zs.length < k
    · have c2 : (zs.length : Int) < k := by omega
      by_cases c3 : 1 < zs.length
      · have c4 : 1 < (zs.length : Int) := by omega
        simp [c, c2, c3, c4]
      · have c4 : ¬ 1 < (zs.length : Int) := by omega
        simp [c, c2, c3, c4]
    · have c2 : ¬ (zs.length : Int) < k := by omega
      by_cases c3 : 1 < k
      · have c4 : 1 < (k : Int) := by omega
        simp [c, c2, c3, c4]
      · have c4 : ¬ 1 < (k : Int) := by omega
        simp [c, c2, c3, c4]
  refine ⟨m, hm, ?_⟩
  have s6 : small6 (m : Int) = true := decide_eq_true ⟨by omega, by omega⟩
  have r : eRg1 (oE (eCa max2D (osCons (oE (eK (.int 1))) (osCons (oE (eCa min2D (osCons (oV 1) (osCons (oE (eCa lenD (osCons (oV 0) osNil))) osNil)))) osNil)))) [some (.frz (zs.map D.int)), some (.int k)] = some (rgD 0 m, [some (.frz (zs.map D.int)), some (.int k)]) := by
    unfold eRg1
    rw [ev_oE, h]
    show (if small6 (m : Int) = true then some (rgD 0 m, _) else none) = _
    rw [if_pos s6]
  have e : rgD 0 (m : Int) = .lst ((List.range m).map fun j : Nat => D.int j) := by
    unfold rgD
    simp
  rw [e] at r
  show mkF 2 2 B__law_cells _ _ = _
  unfold mkF
  rw [if_pos ⟨rfl, rfl⟩]
  show (sRet (eRg1 _) [some (.frz (zs.map D.int)), some (.int k)]).bind _ = _
  rw [ev_sRet, r]
  rfl
/-- a law that looks at some cells, and asks the inner check so many times of each -/
theorem law_gen {laps cells : Nat} (hl : laps ≤ 10) (hc : cells ≤ 3) (hc1 : 1 ≤ cells) (inner : ∀ (n : Nat) (d : D), n < 700000000 → PotOk n d → ∃ d', PotOk (n + 20000000) d' ∧ F__law_right [d] [true] = some (.bl true, [some d'])) (pin : Nat → Bool) (p1 : pin 1 = false) (p2 : pin 2 = false) (zs : List Int) :
    ∃ E, (sSeq (sFor (iSeq (oE (eF F__law_cells (osCons (oV 0) (osCons (oE (eK (.int (cells : Nat)))) osNil))))) (gN (pu sl0 pin) 1) (sSeq (sAsg (eF F__law_pot (osCons (oV 0) (osCons (oV 1) osNil))) (gN (pu sl0 pin) 2))
    (sIf (bNot (bE (eCa allD (osCons (oE (eComp (iRange 1 (osCons (oE (eK (.int (laps : Nat)))) osNil)) [3] (gN (po [3]) 3) bYes (eF F__law_right (osCons (oV 2) osNil)))) osNil)))) (sRet (eK (.bl false))) sNil)))
    (sRet (eK (.bl true)))) [some (.frz (zs.map D.int)), none, none, none] = some (.rt (.bl true), E) := by
  obtain ⟨m, hm, C⟩ := cells_ok zs cells (by omega) hc1
  obtain ⟨fl, E', h, q, y, z, rfl⟩ := for_seq (ρ := (oE (eF F__law_cells (osCons (oV 0) (osCons (oE (eK (.int (cells : Nat)))) osNil))))) (τ := (gN (pu sl0 pin) 1)) (b := (sSeq (sAsg (eF F__law_pot (osCons (oV 0) (osCons (oV 1) osNil))) (gN (pu sl0 pin) 2))
    (sIf (bNot (bE (eCa allD (osCons (oE (eComp (iRange 1 (osCons (oE (eK (.int (laps : Nat)))) osNil)) [3] (gN (po [3]) 3) bYes (eF F__law_right (osCons (oV 2) osNil)))) osNil)))) (sRet (eK (.bl false))) sNil))) (E := [some (.frz (zs.map D.int)), none, none, none]) (E0 := [some (.frz (zs.map D.int)), none, none, none]) (tk := .own (.lst ((List.range m).map fun j : Nat => D.int j))) (s := .own (.lst ((List.range m).map fun j : Nat => D.int j))) (List.range m) (fun j : Nat => D.int j) (by simp [ioOf, ioSl, apart, putOuts, C]) (by simp [scOf]) (fun k _ => rfl)
    (fun j E => ∃ y z, E = [some (.frz (zs.map D.int)), y, z, none]) (fun fl E => fl = .nx ∧ ∃ y z, E = [some (.frz (zs.map D.int)), y, z, none]) ⟨none, none, rfl⟩ (fun j E _ => rfl) (fun j z E hz ⟨y, w, hE⟩ => by
      subst hE
      have hz3 : z < 3 := by have := List.mem_range.mp (List.mem_of_getElem? hz); omega
      obtain ⟨d, hd, P⟩ := pot_ok zs hz3
      have K := eComp_inv (ι := iRange 1 (osCons (oE (eK (.int (laps : Nat)))) osNil)) (own := [3]) (τ := gN (po [3]) 3) (t := bYes) (x := eF F__law_right (osCons (oV 2) osNil)) (E := [some (.frz (zs.map D.int)), some (.int z), some d, none]) (E0 := [some (.frz (zs.map D.int)), some (.int z), some d, none])
        (iRange1_ev (tk := .own (.int (laps : Nat))) (n := (laps : Nat)) (by simp) rfl (fits_of (by omega) (by omega))) (by show (laps : Int).toNat ≤ _; omega)
        (fun j acc E => ∃ d', E = [some (.frz (zs.map D.int)), some (.int z), some d', none] ∧ PotOk (20000000 * j) d' ∧ acc = (List.replicate j true).map D.bl) ⟨d, rfl, hd, rfl⟩ (fun j acc E hj ⟨d', hE, h1, h2⟩ => by
          subst hE h2
          have hj : j < (laps : Int).toNat := hj
          obtain ⟨d2, r1, r2⟩ := inner _ _ (by omega) h1
          have im := h1.imm
          refine ⟨.int (0 + (j : Nat)), [some (.frz (zs.map D.int)), some (.int z), some d', some (.int (0 + (j : Nat)))], true, [some (.frz (zs.map D.int)), some (.int z), some d', some (.int (0 + (j : Nat)))], rfl, by simp, rfl, .inr ⟨rfl, .bl true, [some (.frz (zs.map D.int)), some (.int z), some d2, some (.int (0 + (j : Nat)))], ?_, d2, by simp [wipeE], r1.mono (by omega), ?_⟩⟩
          · simp [ioOf, ioSl, apart, putOuts, im, r2]
          · rw [List.replicate_succ', List.map_append]; rfl) (fun acc E _ => rfl)
      obtain ⟨ys, E2, k1, d', k2, k3, k4⟩ := K
      have n2 : (plRng 0 (laps : Int).toNat).n = laps := by show (laps : Int).toNat = _; omega
      rw [n2] at k4
      subst k2 k4
      refine ⟨[some (.frz (zs.map D.int)), some (.int z), w, none], .nx, [some (.frz (zs.map D.int)), some (.int z), some d', none], by simp [p1], ?_, ⟨_, _, rfl⟩⟩
      have s1 : sAsg (eF F__law_pot (osCons (oV 0) (osCons (oV 1) osNil))) (gN (pu sl0 pin) 2) [some (.frz (zs.map D.int)), some (.int z), w, none] = some (.nx, [some (.frz (zs.map D.int)), some (.int z), some d, none]) := by simp [ioOf, ioSl, apart, putOuts, P, p2]
      rw [ev_sSeq, s1]
      show (sIf _ _ _) [some (.frz (zs.map D.int)), some (.int z), some d, none] = _
      have h2 : allD [.lst ((List.replicate laps true).map D.bl)] = some (.bl true) := by rw [op_all_l]; simp
      generalize (eComp (iRange 1 (osCons (oE (eK (.int (laps : Nat)))) osNil)) [3] (gN (po [3]) 3) bYes (eF F__law_right (osCons (oV 2) osNil))) = ce at k1 ⊢
      generalize (D.lst ((List.replicate laps true).map D.bl)) = dl at k1 h2
      simp [k1, h2, backE]) (fun E hE => ⟨rfl, hE⟩)
  subst q
  refine ⟨[some (.frz (zs.map D.int)), y, z, none], ?_⟩
  rw [ev_sSeq, h]
  simp
end K59
end
section
namespace K59
open PySem PySem.Spec L2 Dn
/-! ### heirs -/
abbrev Heir := Nat × Nat × Nat
def hD (h : Heir) : D := .tup [.int h.1, .int h.2.1, .int h.2.2]
theorem encH : EncP hD 1 where
  imm h := rfl
  sh h := shN_tup fun x hx => by
    simp only [List.mem_cons, List.not_mem_nil, or_false] at hx
    rcases hx with e | e | e <;> rw [e] <;> exact shN_int 0 _
  eq a b := by
    obtain ⟨a1, a2, a3⟩ := a
    obtain ⟨b1, b2, b3⟩ := b
    simp only [hD, eqv_tcc, eqv_tnn, eqv_int]
    by_cases h1 : a1 = b1 <;> by_cases h2 : a2 = b2 <;> by_cases h3 : a3 = b3 <;> simp [h1, h2, h3] <;> omega
def hsD (hs : List Heir) : D := .tup (hs.map hD)
@[simp] theorem hsD_imm (hs : List Heir) : (hsD hs).imm = true := encH.tup.imm hs
@[simp] theorem hD_imm (h : Heir) : (hD h).imm = true := rfl
@[simp] theorem hsD_len (hs : List Heir) : lenD [hsD hs] = some (.int hs.length) := by simp [hsD]
@[simp] theorem hsD_ix (hs : List Heir) (q : Nat) : ixD2 (hsD hs) (.int (q : Int)) = match hs[q]? with
  | some p => some (hD p)
  | none => none := by
  simp only [hsD, ix2_t, Dn.atI_nat, List.getElem?_map]
  cases hs[q]? <;> simp
@[simp] theorem hD_ix0 (h : Heir) : ixD2 (hD h) (.int 0) = some (.int h.1) := rfl
@[simp] theorem hD_ix1 (h : Heir) : ixD2 (hD h) (.int 1) = some (.int h.2.1) := rfl
@[simp] theorem hD_ix2 (h : Heir) : ixD2 (hD h) (.int 2) = some (.int h.2.2) := rfl
@[simp] theorem hD_ixm (h : Heir) : ixD2 (hD h) (.int (-1)) = some (.int h.2.2) := rfl
@[simp] theorem hD_len (h : Heir) : lenD [hD h] = some (.int 3) := rfl
structure Town (c : Nat) (old : List Nat) (hs : List Heir) : Prop where
  c1 : 1 ≤ c
  c6 : c ≤ 6
  ol : old.length ≤ c
  o60 : ∀ o ∈ old, o ≤ 60
  os : old.Pairwise (· ≤ ·)
  hl : hs.length ≤ 4
  h1 : ∀ h ∈ hs, h.1 ≤ 40
  h2 : ∀ h ∈ hs, h.2.1 ≤ 10
  h3 : ∀ h ∈ hs, 1 ≤ h.2.2 ∧ h.2.2 ≤ 40
/-- a tuple of naturals -/
def pR (p : List Nat) : D := .tup (p.map fun k : Nat => D.int k)
@[simp] theorem pR_imm (p : List Nat) : (pR p).imm = true := encN.tup.imm p
@[simp] theorem pR_len (p : List Nat) : lenD [pR p] = some (.int p.length) := by simp [pR]
@[simp] theorem pR_ty (p : List Nat) : (pR p).ty = "tuple" := rfl
@[simp] theorem hsD_ty (p : List Heir) : (hsD p).ty = "tuple" := rfl
@[simp] theorem hD_ty (p : Heir) : (hD p).ty = "tuple" := rfl
@[simp] theorem pR_ix (p : List Nat) (q : Nat) : ixD2 (pR p) (.int (q : Int)) = match p[q]? with
  | some p => some (.int p)
  | none => none := by
  simp only [pR, ix2_t, Dn.atI_nat, List.getElem?_map]
  cases p[q]? <;> simp
theorem rgD_n (n : Nat) : rgD 0 (n : Int) = .lst ((List.range n).map fun k : Nat => D.int k) := by simp [rgD]
def Rank (n : Nat) (r : List Nat) : Prop := r.Perm (List.range n)
/-! ### words -/
@[simp] theorem F_is_integer_i (i : Int) : F_is_integer [.int i] [false] = some (.bl true, [none]) := by
  simp [F_is_integer, mkF, B_is_integer, isiB, outs]
@[simp] theorem F_is_between_i (v lo hi : Int) : F_is_between [.int v, .int lo, .int hi] [false, false, false] = some (.bl (decide (lo ≤ v ∧ v ≤ hi)), [none, none, none]) := by
  by_cases h1 : lo ≤ v <;> by_cases h2 : v ≤ hi <;> simp [F_is_between, mkF, B_is_between, isiB, outs, ioOf, ioSl, apart, putOuts, h1, h2]
theorem F_are_between_t (ns : List Int) (lo hi : Int) (h : ns.length ≤ 100000) : F_are_between [tupI ns, .int lo, .int hi] [false, false, false] = some (.bl (ns.all fun n => decide (lo ≤ n ∧ n ≤ hi)), [none, none, none]) := by
  have C := comp_seq (ρ := oV 0) (own := [3]) (τ := gN (po [3]) 3) (t := bYes) (x := eF F_is_between (osCons (oV 3) (osCons (oV 1) (osCons (oV 2) osNil)))) (E := [some (tupI ns), some (.int lo), some (.int hi), none]) (tk := .slot 0) (s := .own (tupI ns))
    ns D.int (fun _ => true) (fun n => .bl (decide (lo ≤ n ∧ n ≤ hi))) rfl (by simp [scOf]) rfl rfl h (fun _ _ => rfl) (fun z _ => by
      refine ⟨_, _, by simp [wipeE]; rfl, rfl, (fun h => by cases h), fun _ => ?_⟩
      simp [ioOf, ioSl, apart, putOuts, wipeE])
  rw [filter_yes] at C
  simp [-Bool.decide_and, F_are_between, mkF, B_are_between, isiB, outs, C, wipeE, backE]
theorem pR_tupI (r : List Nat) : pR r = tupI (nI r) := by simp [pR, tupI, nI, Function.comp_def]
theorem lN_nI (r : List Nat) : lN r = .lst ((nI r).map D.int) := by rw [nI_map]
theorem F_are_between_n (r : List Nat) (hi : Int) (h : r.length ≤ 100000) : F_are_between [pR r, .int 0, .int hi] [false, false, false] = some (.bl (r.all fun n => decide ((n : Int) ≤ hi)), [none, none, none]) := by
  rw [pR_tupI, F_are_between_t _ _ _ (by simpa using h)]
  have e : (nI r).all (fun n => decide (0 ≤ n ∧ n ≤ hi)) = r.all fun n => decide ((n : Int) ≤ hi) := by
    simp only [nI, List.all_map, Function.comp_def]
    congr 1
    funext n
    exact decide_eq_decide.mpr ⟨fun h => h.2, fun h => ⟨by omega, h⟩⟩
  rw [e]
theorem sortD2_p (r : List Nat) : sortD2 [pR r] = some (.lst ((srt (nI r)).map D.int)) := by rw [pR_tupI]; exact op_sort2_t _
theorem F_check_chairs_i {c : Nat} (h : 1 ≤ c) (h2 : c ≤ 6) : F_check_chairs [.int c] [false] = some (.non, [none]) := by
  have h' : ((1:Int) ≤ c ∧ (c:Int) ≤ 6) := by omega
  simp [F_check_chairs, mkF, B_check_chairs, outs, ioOf, ioSl, apart, putOuts, h']
theorem F_check_old_n {c : Nat} {old : List Nat} (h1 : old.length ≤ c) (h2 : ∀ o ∈ old, o ≤ 60) (h3 : old.Pairwise (· ≤ ·)) (hl : old.length ≤ 100000) : F_check_old [.int c, pR old] [false, false] = some (.non, [none, none]) := by
  have A := F_are_between_n old 60 hl
  have e : (old.all fun n => decide ((n : Int) ≤ 60)) = true := by
    rw [List.all_eq_true]
    intro n hn
    have := h2 n hn
    exact decide_eq_true (by omega)
  rw [e] at A
  have S := sortD2_p old
  rw [srt_self (by
    unfold nI
    rw [List.pairwise_map]
    exact h3.imp fun {a b} h => by omega), nI_map] at S
  have q1 := encN.lstShp old
  have q2 := encN.lstEq old old
  have g : ¬ ((c : Int) < old.length) := by omega
  have im := encN.imms old
  have L : lstOfD [pR old] = some (lN old) := by simp [lstOfD, pR, lN, D.seq?, im]
  have Z : lenD [pR old] = some (.int old.length) := by simp
  simp only [lN] at S L
  simp [F_check_old, mkF, B_check_old, outs, ioOf, ioSl, apart, putOuts, A, S, g, L, q1, q2, Z]
theorem F_is_heir_h {h : Heir} (h1 : h.1 ≤ 40) (h2 : h.2.1 ≤ 10) (h3 : 1 ≤ h.2.2 ∧ h.2.2 ≤ 40) : F_is_heir [hD h] [false] = some (.bl true, [none]) := by
  obtain ⟨a, b, c⟩ := h
  have e1 : ((0:Int) ≤ a ∧ (a:Int) ≤ 40) := by simp at h1; omega
  have e2 : ((0:Int) ≤ b ∧ (b:Int) ≤ 10) := by simp at h2; omega
  have e3 : ((1:Int) ≤ c ∧ (c:Int) ≤ 40) := by simp at h3; omega
  simp [F_is_heir, mkF, B_is_heir, outs, ioOf, ioSl, apart, putOuts, isiB, e1, e2, e3]
theorem F_check_heirs_h {c : Nat} {old : List Nat} {hs : List Heir} (t : Town c old hs) : F_check_heirs [hsD hs] [false] = some (.non, [none]) := by
  have C := comp_seq (ρ := oV 0) (own := [1]) (τ := gN (po [1]) 1) (t := bYes) (x := eF F_is_heir (osCons (oV 1) osNil)) (E := [some (hsD hs), none]) (tk := .slot 0) (s := .own (hsD hs))
    hs hD (fun _ => true) (fun h => .bl true) rfl (by simp [scOf]) rfl rfl (by have := t.hl; omega) (fun _ _ => rfl) (fun z hz => by
      refine ⟨_, _, by simp [wipeE]; rfl, rfl, (fun h => by cases h), fun _ => ?_⟩
      simp [ioOf, ioSl, apart, putOuts, wipeE, F_is_heir_h (t.h1 z hz) (t.h2 z hz) (t.h3 z hz)])
  rw [filter_yes] at C
  have g : ¬ ((10 : Int) < hs.length) := by have := t.hl; omega
  simp [F_check_heirs, mkF, B_check_heirs, outs, C, wipeE, backE, g, isiB, -List.map_const']
theorem F_check_town_h {c : Nat} {old : List Nat} {hs : List Heir} (t : Town c old hs) : F_check_town [.int c, pR old, hsD hs] [false, false, false] = some (.non, [none, none, none]) := by
  have A := F_check_chairs_i t.c1 t.c6
  have B := F_check_old_n t.ol t.o60 t.os (by have := t.ol; have := t.c6; omega)
  have C := F_check_heirs_h t
  simp [F_check_town, mkF, B_check_town, outs, ioOf, ioSl, apart, putOuts, A, B, C]
theorem F_check_few_h {c : Nat} {old : List Nat} {hs : List Heir} (t : Town c old hs) : F_check_few [.int c, pR old, hsD hs] [false, false, false] = some (.non, [none, none, none]) := by
  have A := F_check_town_h t
  have g : ¬ ((5 : Int) < hs.length) := by have := t.hl; omega
  simp [F_check_few, mkF, B_check_few, outs, ioOf, ioSl, apart, putOuts, A, g]
theorem F_check_heir_h {c : Nat} {old : List Nat} {hs : List Heir} (t : Town c old hs) {h : Nat} (hh : h < hs.length) : F_check_heir [.int c, pR old, hsD hs, .int h] [false, false, false, false] = some (.non, [none, none, none, none]) := by
  have A := F_check_town_h t
  have g : ((0 : Int) ≤ h ∧ (h : Int) ≤ hs.length - 1) := by omega
  simp [F_check_heir, mkF, B_check_heir, outs, ioOf, ioSl, apart, putOuts, A, g]
theorem F_check_heir_year_h {c : Nat} {old : List Nat} {hs : List Heir} (t : Town c old hs) {h y : Nat} (hh : h < hs.length) (hy : y ≤ 60) : F_check_heir_year [.int c, pR old, hsD hs, .int h, .int y] [false, false, false, false, false] = some (.non, [none, none, none, none, none]) := by
  have A := F_check_heir_h t hh
  have B := F_check_few_h t
  have g : ((0 : Int) ≤ y ∧ (y : Int) ≤ 60) := by omega
  simp [F_check_heir_year, mkF, B_check_heir_year, outs, ioOf, ioSl, apart, putOuts, A, B, g]
theorem Rank.len {n : Nat} {r : List Nat} (h : Rank n r) : r.length = n := by rw [h.length_eq, List.length_range]
theorem Rank.lt {n : Nat} {r : List Nat} (h : Rank n r) {i : Nat} (hi : i ∈ r) : i < n := by simpa using h.mem_iff.mp hi
theorem Rank.mem {n : Nat} {r : List Nat} (h : Rank n r) {i : Nat} (hi : i < n) : i ∈ r := h.mem_iff.mpr (by simpa using hi)
theorem Rank.nodup {n : Nat} {r : List Nat} (h : Rank n r) : r.Nodup := h.nodup_iff.mpr List.nodup_range
theorem F_is_rank_h {hs : List Heir} {r : List Nat} (hr : Rank hs.length r) (hl : hs.length ≤ 4) : F_is_rank [hsD hs, pR r] [false, false] = some (.bl true, [none, none]) := by
  have A := F_are_between_n r (hs.length - 1) (by have := hr.len; omega)
  have e : (r.all fun n => decide ((n : Int) ≤ hs.length - 1)) = true := by
    rw [List.all_eq_true]
    intro n hn
    have := hr.lt hn
    exact decide_eq_true (by omega)
  rw [e] at A
  have S := sortD2_p r
  have e2 : srt (nI r) = nI (List.range hs.length) := by
    refine (srt_uniq ?_ ?_).symm
    · exact (hr.map _).symm
    · unfold nI
      rw [List.pairwise_map]
      exact List.pairwise_lt_range.imp fun {a b} h => by omega
  rw [e2] at S
  rw [nI_map] at S
  have q1 := encN.lstShp (List.range hs.length)
  have q2 := encN.lstEq (List.range hs.length) (List.range hs.length)
  have s6 : small6 (hs.length : Int) = true := by
    unfold small6
    exact decide_eq_true ⟨by omega, by omega⟩
  simp [F_is_rank, mkF, B_is_rank, outs, ioOf, ioSl, apart, putOuts, A, S, q1, q2, s6, rgD_n]
theorem F_check_ranked_h {c : Nat} {old : List Nat} {hs : List Heir} (t : Town c old hs) {r : List Nat} (hr : Rank hs.length r) : F_check_ranked [.int c, pR old, hsD hs, pR r] [false, false, false, false] = some (.non, [none, none, none, none]) := by
  have A := F_check_town_h t
  have B := F_is_rank_h hr t.hl
  simp [F_check_ranked, mkF, B_check_ranked, outs, ioOf, ioSl, apart, putOuts, A, B]
theorem F_waited_h (h : Heir) : F_waited_from [hD h] [false] = some (.int (h.1 + h.2.1 : Nat), [none]) := by
  simp [F_waited_from, mkF, B_waited_from, outs]
end K59
end
section
namespace K59
open PySem PySem.Spec L2 Dn
/-! ### a run, year by year -/
def wt (hs : List Heir) (i : Nat) : Nat := match hs[i]? with | some h => h.1 + h.2.1 | none => 0
def lf (hs : List Heir) (i : Nat) : Nat := match hs[i]? with | some h => h.2.2 | none => 0
def fre (c y : Nat) (u : List Nat) : List Nat := (List.range c).filter fun j => decide (u[j]?.getD 0 ≤ y)
def rdy (hs : List Heir) (r : List Nat) (g : List (Nat × Nat)) (y : Nat) : List Nat := r.filter fun i => !(lk g i).isSome && decide (wt hs i ≤ y)
structure Sd where
  u : List Nat
  g : List (Nat × Nat)
  f : List (Nat × Nat × Nat)
def put1 (hs : List Heir) (y : Nat) (s : Sd) (p : Nat × Nat) : Sd := ⟨s.u.set p.1 (y + lf hs p.2), pt s.g p.2 y, s.f ++ [(y, p.1, p.2)]⟩
def year1 (c : Nat) (hs : List Heir) (r : List Nat) (s : Sd) (y : Nat) : Sd := ((fre c y s.u).zip (rdy hs r s.g y)).foldl (put1 hs y) s
def beg (c : Nat) (old : List Nat) : Sd := ⟨old ++ List.replicate (c - old.length) 0, [], []⟩
def upTo (c : Nat) (old : List Nat) (hs : List Heir) (r : List Nat) (y : Nat) : Sd := (List.range y).foldl (year1 c hs r) (beg c old)
theorem upTo_s (c : Nat) (old : List Nat) (hs : List Heir) (r : List Nat) (y : Nat) : upTo c old hs r (y + 1) = year1 c hs r (upTo c old hs r y) y := by simp [upTo, List.range_succ]
theorem fold_put_len (hs : List Heir) (y : Nat) : ∀ (z : List (Nat × Nat)) (s : Sd), (z.foldl (put1 hs y) s).u.length = s.u.length ∧ (z.foldl (put1 hs y) s).g.length ≤ s.g.length + z.length ∧ (z.foldl (put1 hs y) s).f.length = s.f.length + z.length
  | [], s => by simp
  | p :: z, s => by
    obtain ⟨h1, h2, h3⟩ := fold_put_len hs y z (put1 hs y s p)
    have := pt_len s.g p.2 y
    simp only [List.foldl_cons, List.length_cons]
    simp only [put1, List.length_set, List.length_append, List.length_cons, List.length_nil] at h1 h2 h3
    exact ⟨h1, by simp only [put1]; omega, by simp only [put1]; omega⟩
theorem fre_len (c y : Nat) (u : List Nat) : (fre c y u).length ≤ c := by
  unfold fre
  exact Nat.le_trans (List.length_filter_le _ _) (by simp)
theorem fre_lt {c y : Nat} {u : List Nat} {j : Nat} (h : j ∈ fre c y u) : j < c := by
  unfold fre at h
  simpa using (List.mem_filter.mp h).1
theorem zip_len (c y : Nat) (u : List Nat) (l : List Nat) : ((fre c y u).zip l).length ≤ c := by
  have := fre_len c y u
  rw [List.length_zip]
  omega
theorem upTo_len (c : Nat) (old : List Nat) (hs : List Heir) (r : List Nat) (ho : old.length ≤ c) : ∀ y : Nat, (upTo c old hs r y).u.length = c ∧ (upTo c old hs r y).g.length ≤ c * y ∧ (upTo c old hs r y).f.length ≤ c * y
  | 0 => by simp [upTo, beg]; omega
  | y + 1 => by
    obtain ⟨h1, h2, h3⟩ := upTo_len c old hs r ho y
    rw [upTo_s]
    unfold year1
    obtain ⟨q1, q2, q3⟩ := fold_put_len hs y ((fre c y (upTo c old hs r y).u).zip (rdy hs r (upTo c old hs r y).g y)) (upTo c old hs r y)
    have := zip_len c y (upTo c old hs r y).u (rdy hs r (upTo c old hs r y).g y)
    rw [q1]
    have : c * (y + 1) = c * y + c := Nat.mul_succ c y
    exact ⟨h1, by omega, by omega⟩
def fD (p : Nat × Nat × Nat) : D := .tup [.int p.1, .int p.2.1, .int p.2.2]
theorem map_cast (u : List Nat) (q : Nat) : (u.map fun k : Nat => D.int k)[q]? = u[q]?.map fun k : Nat => D.int k := List.getElem?_map ..
theorem wt_of {hs : List Heir} {i : Nat} {h : Heir} (e : hs[i]? = some h) : wt hs i = h.1 + h.2.1 := by simp [wt, e]
theorem lf_of {hs : List Heir} {i : Nat} {h : Heir} (e : hs[i]? = some h) : lf hs i = h.2.2 := by simp [lf, e]
section
variable (c : Nat) (old : D) (hs : List Heir) (r : List Nat) (u : List Nat) (g : List (Nat × Nat)) (f : List D) (y : Nat) (v8 v9 v10 v11 : Option D)
abbrev rE : Dn.Env := [some (.int c), some old, some (hsD hs), some (pR r), some (lN u), some (.dcK (gK g)), some (.lst f), some (.int y), v8, v9, v10, v11]
abbrev rY : SX := (sSeq (sAsg (eComp (iRange 1 (osCons (oV 0) osNil)) [10] (gN (po [10]) 10) (bE (eOp2 leD (oE (eOp2 ixD2 (oV 4) (oV 10))) (oV 7))) (eV 10)) (gN (pu sl0 (pinOf [false, false, false, false])) 8)) (sSeq (sAsg (eComp (iSeq (oV 3)) [11] (gN (po [11]) 11) (bAnd (bE (eOp2 notInD2 (oV 11) (oV 5))) (bE (eOp2 leD (oE (eF F_waited_from (osCons (oE (eOp2 ixD2 (oV 2) (oV 11))) osNil))) (oV 7)))) (eV 11)) (gN (pu sl0 (pinOf [false, false, false, false])) 9)) (sFor (iZip (osCons (oV 8) (osCons (oV 9) osNil))) (gTup 2 (gsCons (gN (pu (sl2 8 9) (pu sl0 (pinOf [false, false, false, false]))) 10) (gsCons (gN (pu (sl2 8 9) (pu sl0 (pinOf [false, false, false, false]))) 11) gsNil))) (sSeq (sAsg (eOp2 addD (oV 7) (oE (eOp2 ixD2 (oE (eOp2 ixD2 (oV 2) (oV 11))) (oE (eUn negD (oE (eK (.int 1)))))))) (gSet 4 (eV 10))) (sSeq (sAsg (eV 7) (gSetD 5 (eV 11))) (sExp (eMut1 6 appF (eTup (osCons (oE (eV 7)) (osCons (oE (eV 10)) (osCons (oE (eV 11)) osNil)))))))))))
abbrev rZ : SX := (sSeq (sAsg (eOp2 addD (oV 7) (oE (eOp2 ixD2 (oE (eOp2 ixD2 (oV 2) (oV 11))) (oE (eUn negD (oE (eK (.int 1)))))))) (gSet 4 (eV 10))) (sSeq (sAsg (eV 7) (gSetD 5 (eV 11))) (sExp (eMut1 6 appF (eTup (osCons (oE (eV 7)) (osCons (oE (eV 10)) (osCons (oE (eV 11)) osNil))))))))
theorem run_c1 (hc : c ≤ 6) (hu : u.length = c) : (eComp (iRange 1 (osCons (oV 0) osNil)) [10] (gN (po [10]) 10) (bE (eOp2 leD (oE (eOp2 ixD2 (oV 4) (oV 10))) (oV 7))) (eV 10)) (rE c old hs r u g f y v8 v9 v10 v11) = some (lN (fre c y u), rE c old hs r u g f y v8 v9 v10 v11) := by
  refine Wp.eq (wp_comp_range c (fun j => decide (u[j]?.getD 0 ≤ y)) (fun j => .int j) rfl rfl (by omega) (fun j hj => ?_) ?_)
  · have hj : j < u.length := by omega
    have e : u[j]? = some u[j] := List.getElem?_eq_getElem hj
    refine ⟨_, by simp [wipeE, po]; rfl, ?_⟩
    by_cases q : u[j] ≤ y <;> simp [lN, Dn.atI_nat, map_cast, e, q, wipeE]
  · simp [wipeE, backE, fre, lN]
theorem run_c2 (hr : ∀ i ∈ r, i < hs.length) (hl : r.length ≤ 100000) : (eComp (iSeq (oV 3)) [11] (gN (po [11]) 11) (bAnd (bE (eOp2 notInD2 (oV 11) (oV 5))) (bE (eOp2 leD (oE (eF F_waited_from (osCons (oE (eOp2 ixD2 (oV 2) (oV 11))) osNil))) (oV 7)))) (eV 11)) (rE c old hs r u g f y v8 v9 v10 v11) = some (lN (rdy hs r g y), rE c old hs r u g f y v8 v9 v10 v11) := by
  refine Wp.eq (wp_comp_seq (tk := .slot 3) (s := .own (pR r)) r (fun i : Nat => D.int i) (fun i => !(lk g i).isSome && decide (wt hs i ≤ y)) (fun i => .int i) rfl (by simp [scOf]) rfl rfl hl (fun _ _ => rfl) (fun i hi => ?_) ?_)
  · have e : hs[i]? = some (hs[i]'(hr i hi)) := List.getElem?_eq_getElem _
    have w := wt_of e
    refine ⟨_, by simp [wipeE, po]; rfl, ?_⟩
    cases h : lk g i with
    | none => by_cases q : wt hs i ≤ y <;> simp [h, e, F_waited_h, ← w, q, wipeE, ioOf, ioSl, apart, putOuts]
    | some z => simp [h, wipeE]
  · simp [wipeE, backE, rdy, lN]
theorem put1_ok (s : Sd) {a b : Nat} (ha : a < s.u.length) (hb : b < hs.length) (hg : s.g.length < 100000) (hf : s.f.length < 100000) : rZ (rE c old hs r s.u s.g (s.f.map fD) y v8 v9 (some (.int a)) (some (.int b))) = some (.nx, rE c old hs r (put1 hs y s (a, b)).u (put1 hs y s (a, b)).g ((put1 hs y s (a, b)).f.map fD) y v8 v9 (some (.int a)) (some (.int b))) := by
  have e : hs[b]? = some (hs[b]'hb) := List.getElem?_eq_getElem _
  have w := lf_of e
  have n : ixN s.u.length (a : Int) = some a := by
    unfold ixN
    rw [if_pos (Int.natCast_nonneg a), if_pos (by omega)]
    rfl
  have p := putD_gK s.g b y
  have hg2 : (gK s.g).length < 100000 := by simpa using hg
  have F := op_app (xs := s.f.map fD) (.tup [.int y, .int a, .int b]) (by simpa using hf)
  simp [e, n, hg, lN, p, F, put1, w, fD, List.map_set]
theorem run_z (s : Sd) (fr rd : List Nat) (hu : s.u.length = c) (hc : c ≤ 6) (hfr : ∀ a ∈ fr, a < c) (hrd : ∀ b ∈ rd, b < hs.length) (hl : fr.length ≤ 6) (hg : s.g.length ≤ 90000) (hf : s.f.length ≤ 90000) :
    Wp ((sFor (iZip (osCons (oV 8) (osCons (oV 9) osNil))) (gTup 2 (gsCons (gN (pu (sl2 8 9) (pu sl0 (pinOf [false, false, false, false]))) 10) (gsCons (gN (pu (sl2 8 9) (pu sl0 (pinOf [false, false, false, false]))) 11) gsNil))) (sSeq (sAsg (eOp2 addD (oV 7) (oE (eOp2 ixD2 (oE (eOp2 ixD2 (oV 2) (oV 11))) (oE (eUn negD (oE (eK (.int 1)))))))) (gSet 4 (eV 10))) (sSeq (sAsg (eV 7) (gSetD 5 (eV 11))) (sExp (eMut1 6 appF (eTup (osCons (oE (eV 7)) (osCons (oE (eV 10)) (osCons (oE (eV 11)) osNil))))))))) (rE c old hs r s.u s.g (s.f.map fD) y (some (lN fr)) (some (lN rd)) v10 v11)) fun k E' => k = .nx ∧ ∃ v10 v11, E' = rE c old hs r ((fr.zip rd).foldl (put1 hs y) s).u ((fr.zip rd).foldl (put1 hs y) s).g (((fr.zip rd).foldl (put1 hs y) s).f.map fD) y (some (lN fr)) (some (lN rd)) v10 v11 := by
  refine wp_for_zip (t1 := .slot 8) (t2 := .slot 9) (s1 := .sl 8) (s2 := .sl 9) fr (fun i : Nat => D.int i) rd (fun i : Nat => D.int i)
    (fun j E => ∃ v10 v11, E = rE c old hs r (((fr.zip rd).take j).foldl (put1 hs y) s).u (((fr.zip rd).take j).foldl (put1 hs y) s).g ((((fr.zip rd).take j).foldl (put1 hs y) s).f.map fD) y (some (lN fr)) (some (lN rd)) v10 v11)
    (by simp) (by simp [scOf, lN]) (by simp [scOf, lN]) (fun _ _ => rfl) (fun _ _ => rfl) ⟨v10, v11, rfl⟩ (fun j E h => by obtain ⟨_, _, rfl⟩ := h; rfl) (fun j E h => by obtain ⟨_, _, rfl⟩ := h; rfl) (fun j a b E ha hb h => ?_) (fun E h => ?_)
  · obtain ⟨v10, v11, rfl⟩ := h
    obtain ⟨q1, q2, q3⟩ := fold_put_len hs y ((fr.zip rd).take j) s
    have z : (fr.zip rd)[j]? = some (a, b) := by rw [List.getElem?_zip_eq_some]; exact ⟨ha, hb⟩
    have tk : (fr.zip rd).take (j + 1) = (fr.zip rd).take j ++ [(a, b)] := by rw [List.take_succ, z]; rfl
    have hz : ((fr.zip rd).take j).length ≤ 6 := by
      have : (fr.zip rd).length ≤ fr.length := by rw [List.length_zip]; omega
      have := List.length_take_le j (fr.zip rd)
      have : ((fr.zip rd).take j).length ≤ (fr.zip rd).length := by rw [List.length_take]; omega
      omega
    generalize e : ((fr.zip rd).take j).foldl (put1 hs y) s = s' at *
    refine ⟨rE c old hs r s'.u s'.g (s'.f.map fD) y (some (lN fr)) (some (lN rd)) (some (.int a)) (some (.int b)), by simp [pu, sl2, sl0], ?_⟩
    have P := put1_ok (y := y) c old hs r (some (lN fr)) (some (lN rd)) s' (a := a) (b := b) (by have := hfr a (List.mem_of_getElem? ha); omega) (hrd b (List.mem_of_getElem? hb)) (by omega) (by omega)
    refine Wp.of P ?_
    show ∃ v10 v11, _ = _
    rw [tk, List.foldl_append, e]
    exact ⟨_, _, rfl⟩
  · obtain ⟨v10, v11, rfl⟩ := h
    refine ⟨rfl, v10, v11, ?_⟩
    rw [List.take_of_length_le (by rw [List.length_zip]; exact Nat.le_refl _)]
theorem run_y (s : Sd) (v7 : Option D) (hu : s.u.length = c) (hc : c ≤ 6) (hr : ∀ b ∈ r, b < hs.length) (hl : r.length ≤ 100000) (hg : s.g.length ≤ 90000) (hf : s.f.length ≤ 90000) :
    Wp (rY (rE c old hs r s.u s.g (s.f.map fD) y v8 v9 v10 v11)) fun k E' => k = .nx ∧ ∃ v8 v9 v10 v11, E' = rE c old hs r (year1 c hs r s y).u (year1 c hs r s y).g ((year1 c hs r s y).f.map fD) y v8 v9 v10 v11 := by
  have C1 := fun v8 v9 => run_c1 c old hs r s.u s.g (s.f.map fD) y v8 v9 v10 v11 hc hu
  have C2 := fun v8 v9 => run_c2 c old hs r s.u s.g (s.f.map fD) y v8 v9 v10 v11 hr hl
  have Z := run_z c old hs r y v10 v11 s (fre c y s.u) (rdy hs r s.g y) hu hc (fun a h => fre_lt h) (fun b h => hr b (List.mem_filter.mp h).1) (by have := fre_len c y s.u; omega) hg hf
  unfold rY
  generalize (eComp (iRange 1 (osCons (oV 0) osNil)) [10] (gN (po [10]) 10) (bE (eOp2 leD (oE (eOp2 ixD2 (oV 4) (oV 10))) (oV 7))) (eV 10)) = X1 at C1 ⊢
  generalize (eComp (iSeq (oV 3)) [11] (gN (po [11]) 11) (bAnd (bE (eOp2 notInD2 (oV 11) (oV 5))) (bE (eOp2 leD (oE (eF F_waited_from (osCons (oE (eOp2 ixD2 (oV 2) (oV 11))) osNil))) (oV 7)))) (eV 11)) = X2 at C2 ⊢
  generalize (sFor (iZip (osCons (oV 8) (osCons (oV 9) osNil))) (gTup 2 (gsCons (gN (pu (sl2 8 9) (pu sl0 (pinOf [false, false, false, false]))) 10) (gsCons (gN (pu (sl2 8 9) (pu sl0 (pinOf [false, false, false, false]))) 11) gsNil))) (sSeq (sAsg (eOp2 addD (oV 7) (oE (eOp2 ixD2 (oE (eOp2 ixD2 (oV 2) (oV 11))) (oE (eUn negD (oE (eK (.int 1)))))))) (gSet 4 (eV 10))) (sSeq (sAsg (eV 7) (gSetD 5 (eV 11))) (sExp (eMut1 6 appF (eTup (osCons (oE (eV 7)) (osCons (oE (eV 10)) (osCons (oE (eV 11)) osNil))))))))) = X3 at Z ⊢
  simp [C1, C2, pu, sl0]
  exact Z.imp fun k E h => ⟨h.1, by obtain ⟨v10, v11, e⟩ := h.2; exact ⟨_, _, v10, v11, e⟩⟩
end
end K59
end
section
namespace K59
open PySem PySem.Spec L2 Dn
theorem Town.rl {c : Nat} {old : List Nat} {hs : List Heir} (t : Town c old hs) {r : List Nat} (hr : Rank hs.length r) : r.length ≤ 4 := by rw [hr.len]; exact t.hl
theorem Town.r0 {c : Nat} {old : List Nat} {hs : List Heir} (t : Town c old hs) {r : List Nat} (hr : Rank hs.length r) : ∀ b ∈ r, b < hs.length := fun b h => hr.lt h
@[simp] theorem owns_map0 {α : Type} (f : α → D) (zs : List α) : owns (zs.map (Tk.own ∘ f)) = some (zs.map f) := by
  have := ev_owns_map f zs []
  simpa using this
theorem rep_eq {c : Nat} {o : Nat} (h : o ≤ c) : repD [D.int 0] ((c : Int) - (o : Int)) = (List.replicate (c - o) 0).map fun k : Nat => D.int k := by
  have e : ((c : Int) - (o : Int)).toNat = c - o := by omega
  simp [repD, e]
theorem mul_eq {c : Nat} {o : Nat} (h : o ≤ c) (hc : c ≤ 6) : mulD (.lst [.int 0]) (.int ((c : Int) - (o : Int))) = some (.lst ((List.replicate (c - o) 0).map fun k : Nat => D.int k)) := by
  have g : 0 ≤ (c : Int) - (o : Int) ∧ (c : Int) - (o : Int) ≤ 1000 := by omega
  rw [← rep_eq h]
  simp [mulD, g.2, h]
theorem len_small {c : Nat} {old : List Nat} {hs : List Heir} {r : List Nat} (t : Town c old hs) {y : Nat} (hy : y ≤ 61) : (upTo c old hs r y).g.length ≤ 90000 ∧ (upTo c old hs r y).f.length ≤ 90000 := by
  obtain ⟨_, h2, h3⟩ := upTo_len c old hs r t.ol y
  have : c * y ≤ 6 * 61 := Nat.mul_le_mul t.c6 hy
  omega
theorem F_run_of_h {c : Nat} {old : List Nat} {hs : List Heir} (t : Town c old hs) {r : List Nat} (hr : Rank hs.length r) : F_run_of [.int c, pR old, hsD hs, pR r] [false, false, false, false] = some (.lst ((upTo c old hs r 61).f.map fD), [none, none, none, none]) := by
  refine Wp.eq (mkF_of rfl rfl ?_)
  have im := encN.imms old
  have im2 := encN.imms (List.replicate (c - old.length) 0)
  have sq : (pR old).seq? = some (old.map fun k : Nat => D.int k) := rfl
  have fit : old.length + (c - old.length) ≤ 1000 := by
    have := t.ol; have := t.c6
    omega
  have mu := mul_eq t.ol t.c6
  have R : ∀ v7 v8 v9 v10 v11, Wp ((sFor (iRange 1 (osCons (oE (eOp2 addD (oE (eK (.int 60))) (oE (eK (.int 1))))) osNil)) (gN (pu sl0 (pinOf [false, false, false, false])) 7) (sSeq (sAsg (eComp (iRange 1 (osCons (oV 0) osNil)) [10] (gN (po [10]) 10) (bE (eOp2 leD (oE (eOp2 ixD2 (oV 4) (oV 10))) (oV 7))) (eV 10)) (gN (pu sl0 (pinOf [false, false, false, false])) 8)) (sSeq (sAsg (eComp (iSeq (oV 3)) [11] (gN (po [11]) 11) (bAnd (bE (eOp2 notInD2 (oV 11) (oV 5))) (bE (eOp2 leD (oE (eF F_waited_from (osCons (oE (eOp2 ixD2 (oV 2) (oV 11))) osNil))) (oV 7)))) (eV 11)) (gN (pu sl0 (pinOf [false, false, false, false])) 9)) (sFor (iZip (osCons (oV 8) (osCons (oV 9) osNil))) (gTup 2 (gsCons (gN (pu (sl2 8 9) (pu sl0 (pinOf [false, false, false, false]))) 10) (gsCons (gN (pu (sl2 8 9) (pu sl0 (pinOf [false, false, false, false]))) 11) gsNil))) (sSeq (sAsg (eOp2 addD (oV 7) (oE (eOp2 ixD2 (oE (eOp2 ixD2 (oV 2) (oV 11))) (oE (eUn negD (oE (eK (.int 1)))))))) (gSet 4 (eV 10))) (sSeq (sAsg (eV 7) (gSetD 5 (eV 11))) (sExp (eMut1 6 appF (eTup (osCons (oE (eV 7)) (osCons (oE (eV 10)) (osCons (oE (eV 11)) osNil)))))))))))) [some (.int c), some (pR old), some (hsD hs), some (pR r), some (lN (beg c old).u), some (.dcK []), some (.lst []), v7, v8, v9, v10, v11]) fun k E' => k = .nx ∧ ∃ v7 v8 v9 v10 v11, E' = [some (.int c), some (pR old), some (hsD hs), some (pR r), some (lN (upTo c old hs r 61).u), some (.dcK (gK (upTo c old hs r 61).g)), some (.lst ((upTo c old hs r 61).f.map fD)), v7, v8, v9, v10, v11] := fun v7 v8 v9 v10 v11 => by
    refine wp_for_range (tk := .own (.int 61)) 61 (fun j E => ∃ v7 v8 v9 v10 v11, E = [some (.int c), some (pR old), some (hsD hs), some (pR r), some (lN (upTo c old hs r j).u), some (.dcK (gK (upTo c old hs r j).g)), some (.lst ((upTo c old hs r j).f.map fD)), v7, v8, v9, v10, v11]) (E0 := [some (.int c), some (pR old), some (hsD hs), some (pR r), some (lN (beg c old).u), some (.dcK []), some (.lst []), v7, v8, v9, v10, v11]) (by simp) rfl (by decide) ⟨v7, v8, v9, v10, v11, rfl⟩ (fun j E hj h => ?_) (fun E h => ⟨rfl, h⟩)
    obtain ⟨v7, v8, v9, v10, v11, rfl⟩ := h
    obtain ⟨l1, l2⟩ := len_small (r := r) t (y := j) (by omega)
    refine ⟨_, by simp [pu, sl0]; rfl, ?_⟩
    refine (run_y (y := j) c (pR old) hs r v8 v9 v10 v11 (upTo c old hs r j) none (upTo_len c old hs r t.ol j).1 t.c6 (t.r0 hr) (by have := t.rl hr; omega) l1 l2).imp fun k E h => ?_
    obtain ⟨rfl, v8, v9, v10, v11, rfl⟩ := h
    show ∃ v7 v8 v9 v10 v11, _ = _
    rw [upTo_s]
    exact ⟨_, _, _, _, _, rfl⟩
  unfold B_run_of
  generalize (sFor (iRange 1 (osCons (oE (eOp2 addD (oE (eK (.int 60))) (oE (eK (.int 1))))) osNil)) (gN (pu sl0 (pinOf [false, false, false, false])) 7) (sSeq (sAsg (eComp (iRange 1 (osCons (oV 0) osNil)) [10] (gN (po [10]) 10) (bE (eOp2 leD (oE (eOp2 ixD2 (oV 4) (oV 10))) (oV 7))) (eV 10)) (gN (pu sl0 (pinOf [false, false, false, false])) 8)) (sSeq (sAsg (eComp (iSeq (oV 3)) [11] (gN (po [11]) 11) (bAnd (bE (eOp2 notInD2 (oV 11) (oV 5))) (bE (eOp2 leD (oE (eF F_waited_from (osCons (oE (eOp2 ixD2 (oV 2) (oV 11))) osNil))) (oV 7)))) (eV 11)) (gN (pu sl0 (pinOf [false, false, false, false])) 9)) (sFor (iZip (osCons (oV 8) (osCons (oV 9) osNil))) (gTup 2 (gsCons (gN (pu (sl2 8 9) (pu sl0 (pinOf [false, false, false, false]))) 10) (gsCons (gN (pu (sl2 8 9) (pu sl0 (pinOf [false, false, false, false]))) 11) gsNil))) (sSeq (sAsg (eOp2 addD (oV 7) (oE (eOp2 ixD2 (oE (eOp2 ixD2 (oV 2) (oV 11))) (oE (eUn negD (oE (eK (.int 1)))))))) (gSet 4 (eV 10))) (sSeq (sAsg (eV 7) (gSetD 5 (eV 11))) (sExp (eMut1 6 appF (eTup (osCons (oE (eV 7)) (osCons (oE (eV 10)) (osCons (oE (eV 11)) osNil)))))))))))) = X1 at R ⊢
  have q : ∀ v7 v8 v9 v10 v11, Wp (X1 [some (.int c), some (pR old), some (hsD hs), some (pR r), some (lN (beg c old).u), some (.dcK []), some (.lst []), v7, v8, v9, v10, v11]) fun k E' => Wp (match k with | .nx => sRet (eV 6) E' | f => some (f, E')) fun f E => match f with | .rt d => d = .lst ((upTo c old hs r 61).f.map fD) ∧ outs [false, false, false, false] E = [none, none, none, none] | .nx => D.non = .lst ((upTo c old hs r 61).f.map fD) ∧ outs [false, false, false, false] E = [none, none, none, none] | _ => False := fun v7 v8 v9 v10 v11 => (R v7 v8 v9 v10 v11).imp fun k E h => by
    obtain ⟨rfl, v7, v8, v9, v10, v11, rfl⟩ := h
    simp [outs]
  simp [beg, lN, -List.map_replicate] at q
  simp [mu, sq, im, im2, fit, -List.map_replicate]
  exact q _ _ _ _ _
end K59
end
section
namespace K59
open PySem PySem.Spec L2 Dn
theorem fold_f (hs : List Heir) (y : Nat) : ∀ (z : List (Nat × Nat)) (s : Sd), (s.f.map fun p => (p.2.2, p.1)).foldl (fun a p => pt a p.1 p.2) [] = s.g → ((z.foldl (put1 hs y) s).f.map fun p => (p.2.2, p.1)).foldl (fun a p => pt a p.1 p.2) [] = (z.foldl (put1 hs y) s).g
  | [], s, h => h
  | p :: z, s, h => by
    rw [List.foldl_cons]
    refine fold_f hs y z _ ?_
    simp only [put1, List.map_append, List.foldl_append, h]
    rfl
theorem upTo_f (c : Nat) (old : List Nat) (hs : List Heir) (r : List Nat) : ∀ y : Nat, ((upTo c old hs r y).f.map fun p => (p.2.2, p.1)).foldl (fun a p => pt a p.1 p.2) [] = (upTo c old hs r y).g
  | 0 => rfl
  | y + 1 => by
    rw [upTo_s]
    exact fold_f hs y _ _ (upTo_f c old hs r y)
/-- the year in which each is given a chair -/
def giv (c : Nat) (old : List Nat) (hs : List Heir) (r : List Nat) : List (Option Nat) := (List.range hs.length).map (lk (upTo c old hs r 61).g)
theorem giv_len (c : Nat) (old : List Nat) (hs : List Heir) (r : List Nat) : (giv c old hs r).length = hs.length := by simp [giv]
def gL (g : List (Option Nat)) : D := .lst (g.map oN)
def gT (g : List (Option Nat)) : D := .tup (g.map oN)
theorem F_given_by_h {c : Nat} {old : List Nat} {hs : List Heir} (t : Town c old hs) {r : List Nat} (hr : Rank hs.length r) : F_given_by [.int c, pR old, hsD hs, pR r] [false, false, false, false] = some (gL (giv c old hs r), [none, none, none, none]) := by
  have R := F_run_of_h t hr
  have l2 := (len_small (r := r) t (y := 61) (by omega)).2
  have C1 : ∀ v4 v5 v6 v7, (eComp (iSeq (oE (eF F_run_of (osCons (oV 0) (osCons (oV 1) (osCons (oV 2) (osCons (oV 3) osNil))))))) [6, 7, 5] (gTup 3 (gsCons (gN (po [6, 7, 5]) 6) (gsCons (gN (po [6, 7, 5]) 7) (gsCons (gN (po [6, 7, 5]) 5) gsNil)))) bYes (eTup (osCons (oE (eV 5)) (osCons (oE (eV 6)) osNil)))) [some (.int c), some (pR old), some (hsD hs), some (pR r), v4, v5, v6, v7] = some (.lst ((upTo c old hs r 61).f.map fun p => .tup [.int p.2.2, .int p.1]), [some (.int c), some (pR old), some (hsD hs), some (pR r), v4, v5, v6, v7]) := fun v4 v5 v6 v7 => by
    refine Wp.eq (wp_comp_seq (E0 := [some (.int c), some (pR old), some (hsD hs), some (pR r), v4, v5, v6, v7]) (tk := .own (.lst ((upTo c old hs r 61).f.map fD))) (s := .own (.lst ((upTo c old hs r 61).f.map fD))) (upTo c old hs r 61).f fD (fun _ => true) (fun p => .tup [.int p.2.2, .int p.1]) (by simp [ioOf, ioSl, apart, putOuts, R]) (by simp [scOf]) rfl rfl (by omega) (fun _ _ => rfl) (fun p _ => ?_) ?_)
    · refine ⟨_, by simp [wipeE, po, fD]; rfl, ?_⟩
      simp [wipeE, bYes]
    · simp [wipeE, backE]
  have C2 : ∀ v5 v6 v7, (eComp (iRange 1 (osCons (oE (eCa lenD (osCons (oV 2) osNil))) osNil)) [5] (gN (po [5]) 5) bYes (eMeth "dict" getD2 (oV 4) (osCons (oV 5) osNil))) [some (.int c), some (pR old), some (hsD hs), some (pR r), some (.dcK (gK (upTo c old hs r 61).g)), v5, v6, v7] = some (gL (giv c old hs r), [some (.int c), some (pR old), some (hsD hs), some (pR r), some (.dcK (gK (upTo c old hs r 61).g)), v5, v6, v7]) := fun v5 v6 v7 => by
    refine Wp.eq (wp_comp_range (E0 := [some (.int c), some (pR old), some (hsD hs), some (pR r), some (.dcK (gK (upTo c old hs r 61).g)), v5, v6, v7]) (tk := .own (.int hs.length)) hs.length (fun _ => true) (fun i => oN (lk (upTo c old hs r 61).g i)) (by simp) rfl (by have := t.hl; omega) (fun i _ => ?_) ?_)
    · refine ⟨_, by simp [wipeE, po]; rfl, ?_⟩
      cases h : lk (upTo c old hs r 61).g i <;> simp [wipeE, bYes, h, oN]
    · simp [wipeE, backE, gL, giv, Function.comp_def]
  have U := upTo_f c old hs r 61
  have DD := dictD_gK ((upTo c old hs r 61).f.map fun p => (p.2.2, p.1))
  rw [U, List.map_map] at DD
  simp only [Function.comp_def] at DD
  simp only [F_given_by, mkF, B_given_by]
  generalize (eComp (iSeq (oE (eF F_run_of (osCons (oV 0) (osCons (oV 1) (osCons (oV 2) (osCons (oV 3) osNil))))))) [6, 7, 5] (gTup 3 (gsCons (gN (po [6, 7, 5]) 6) (gsCons (gN (po [6, 7, 5]) 7) (gsCons (gN (po [6, 7, 5]) 5) gsNil)))) bYes (eTup (osCons (oE (eV 5)) (osCons (oE (eV 6)) osNil)))) = X1 at C1 ⊢
  generalize (eComp (iRange 1 (osCons (oE (eCa lenD (osCons (oV 2) osNil))) osNil)) [5] (gN (po [5]) 5) bYes (eMeth "dict" getD2 (oV 4) (osCons (oV 5) osNil))) = X2 at C2 ⊢
  simp [outs, C1, C2, DD]
@[simp] theorem gT_imm (g : List (Option Nat)) : (gT g).imm = true := encON.tup.imm g
@[simp] theorem gT_ty (g : List (Option Nat)) : (gT g).ty = "tuple" := rfl
@[simp] theorem gL_ty (g : List (Option Nat)) : (gL g).ty = "list" := rfl
@[simp] theorem gL_imm (g : List (Option Nat)) : (gL g).imm = false := rfl
theorem gL_tup (g : List (Option Nat)) : tupOfD [gL g] = some (gT g) := by simp [gL, gT, encON.imms g]
theorem gL_ix (g : List (Option Nat)) (q : Nat) : ixD2 (gL g) (.int (q : Int)) = g[q]?.map oN := by
  simp only [gL, ix2_l, Dn.atI_nat, List.getElem?_map]
  cases h : g[q]? <;> simp [encON.imm]
theorem gT_ix (g : List (Option Nat)) (q : Nat) : ixD2 (gT g) (.int (q : Int)) = g[q]?.map oN := by
  simp only [gT, ix2_t, Dn.atI_nat, List.getElem?_map]
  cases h : g[q]? <;> simp [encON.imm]
theorem F_given_in_h {c : Nat} {old : List Nat} {hs : List Heir} (t : Town c old hs) {r : List Nat} (hr : Rank hs.length r) : F_given_in [.int c, pR old, hsD hs, pR r] [false, false, false, false] = some (gT (giv c old hs r), [none, none, none, none]) := by
  have A := F_check_ranked_h t hr
  have B := F_given_by_h t hr
  have C := gL_tup (giv c old hs r)
  simp [F_given_in, mkF, B_given_in, outs, ioOf, ioSl, apart, putOuts, A, B, C]
end K59
end
section
namespace K59
open PySem PySem.Spec L2 Dn
section
variable (c : Nat) (old : D) (hs : List Heir) (r : List Nat) (u : List Nat) (g : List (Nat × Nat)) (y : Nat) (v7 v8 v9 v10 : Option D)
abbrev lE : Dn.Env := [some (.int c), some old, some (hsD hs), some (pR r), some (lN u), some (.dcK (gK g)), some (.int y), v7, v8, v9, v10]
abbrev lY : SX := (sSeq (sAsg (eComp (iRange 1 (osCons (oV 0) osNil)) [9] (gN (po [9]) 9) (bE (eOp2 leD (oE (eOp2 ixD2 (oV 4) (oV 9))) (oV 6))) (eV 9)) (gN (pu sl0 (pinOf [false, false, false, false])) 7)) (sSeq (sAsg (eIf (bE (eOp2 neD (oV 7) (oE (eLst osNil)))) (eComp (iSeq (oV 3)) [10] (gN (po [10]) 10) (bAnd (bE (eOp2 notInD2 (oV 10) (oV 5))) (bE (eOp2 leD (oE (eOp2 addD (oE (eOp2 ixD2 (oE (eOp2 ixD2 (oV 2) (oV 10))) (oE (eK (.int 0))))) (oE (eOp2 ixD2 (oE (eOp2 ixD2 (oV 2) (oV 10))) (oE (eK (.int 1))))))) (oV 6)))) (eV 10)) (eLst osNil)) (gN (pu sl0 (pinOf [false, false, false, false])) 8)) (sFor (iZip (osCons (oV 7) (osCons (oV 8) osNil))) (gTup 2 (gsCons (gN (pu (sl2 7 8) (pu sl0 (pinOf [false, false, false, false]))) 9) (gsCons (gN (pu (sl2 7 8) (pu sl0 (pinOf [false, false, false, false]))) 10) gsNil))) (sSeq (sAsg (eOp2 addD (oV 6) (oE (eOp2 ixD2 (oE (eOp2 ixD2 (oV 2) (oV 10))) (oE (eK (.int 2)))))) (gSet 4 (eV 9))) (sAsg (eCa intOfD (osCons (oV 6) osNil)) (gSetD 5 (eV 10)))))))
abbrev lZ : SX := (sSeq (sAsg (eOp2 addD (oV 6) (oE (eOp2 ixD2 (oE (eOp2 ixD2 (oV 2) (oV 10))) (oE (eK (.int 2)))))) (gSet 4 (eV 9))) (sAsg (eCa intOfD (osCons (oV 6) osNil)) (gSetD 5 (eV 10))))
theorem lrun_c1 (hc : c ≤ 6) (hu : u.length = c) : (eComp (iRange 1 (osCons (oV 0) osNil)) [9] (gN (po [9]) 9) (bE (eOp2 leD (oE (eOp2 ixD2 (oV 4) (oV 9))) (oV 6))) (eV 9)) (lE c old hs r u g y v7 v8 v9 v10) = some (lN (fre c y u), lE c old hs r u g y v7 v8 v9 v10) := by
  refine Wp.eq (wp_comp_range c (fun j => decide (u[j]?.getD 0 ≤ y)) (fun j => .int j) rfl rfl (by omega) (fun j hj => ?_) ?_)
  · have hj : j < u.length := by omega
    have e : u[j]? = some u[j] := List.getElem?_eq_getElem hj
    refine ⟨_, by simp [wipeE, po]; rfl, ?_⟩
    by_cases q : u[j] ≤ y <;> simp [lN, Dn.atI_nat, map_cast, e, q, wipeE]
  · simp [wipeE, backE, fre, lN]
theorem lrun_c2 (hr : ∀ i ∈ r, i < hs.length) (hl : r.length ≤ 100000) : (eComp (iSeq (oV 3)) [10] (gN (po [10]) 10) (bAnd (bE (eOp2 notInD2 (oV 10) (oV 5))) (bE (eOp2 leD (oE (eOp2 addD (oE (eOp2 ixD2 (oE (eOp2 ixD2 (oV 2) (oV 10))) (oE (eK (.int 0))))) (oE (eOp2 ixD2 (oE (eOp2 ixD2 (oV 2) (oV 10))) (oE (eK (.int 1))))))) (oV 6)))) (eV 10)) (lE c old hs r u g y v7 v8 v9 v10) = some (lN (rdy hs r g y), lE c old hs r u g y v7 v8 v9 v10) := by
  refine Wp.eq (wp_comp_seq (tk := .slot 3) (s := .own (pR r)) r (fun i : Nat => D.int i) (fun i => !(lk g i).isSome && decide (wt hs i ≤ y)) (fun i => .int i) rfl (by simp [scOf]) rfl rfl hl (fun _ _ => rfl) (fun i hi => ?_) ?_)
  · have e : hs[i]? = some (hs[i]'(hr i hi)) := List.getElem?_eq_getElem _
    have w := wt_of e
    refine ⟨_, by simp [wipeE, po]; rfl, ?_⟩
    have w2 : (((hs[i]'(hr i hi)).1 : Int) + ((hs[i]'(hr i hi)).2.1 : Int) ≤ (y : Int)) = (wt hs i ≤ y) := propext (by rw [w]; omega)
    cases h : lk g i with
    | none => by_cases q : wt hs i ≤ y <;> simp [h, e, w2, q, wipeE]
    | some z => simp [h, wipeE]
  · simp [wipeE, backE, rdy, lN]
theorem lrun_if (hr : ∀ i ∈ r, i < hs.length) (hl : r.length ≤ 100000) (fr : List Nat) (hf : v7 = some (lN fr)) : (eIf (bE (eOp2 neD (oV 7) (oE (eLst osNil)))) (eComp (iSeq (oV 3)) [10] (gN (po [10]) 10) (bAnd (bE (eOp2 notInD2 (oV 10) (oV 5))) (bE (eOp2 leD (oE (eOp2 addD (oE (eOp2 ixD2 (oE (eOp2 ixD2 (oV 2) (oV 10))) (oE (eK (.int 0))))) (oE (eOp2 ixD2 (oE (eOp2 ixD2 (oV 2) (oV 10))) (oE (eK (.int 1))))))) (oV 6)))) (eV 10)) (eLst osNil)) (lE c old hs r u g y v7 v8 v9 v10) = some (lN (if fr = [] then [] else rdy hs r g y), lE c old hs r u g y v7 v8 v9 v10) := by
  subst hf
  have C2 := lrun_c2 c old hs r u g y (some (lN fr)) v8 v9 v10 hr hl
  generalize (eComp (iSeq (oV 3)) [10] (gN (po [10]) 10) (bAnd (bE (eOp2 notInD2 (oV 10) (oV 5))) (bE (eOp2 leD (oE (eOp2 addD (oE (eOp2 ixD2 (oE (eOp2 ixD2 (oV 2) (oV 10))) (oE (eK (.int 0))))) (oE (eOp2 ixD2 (oE (eOp2 ixD2 (oV 2) (oV 10))) (oE (eK (.int 1))))))) (oV 6)))) (eV 10)) = X2 at C2 ⊢
  have q1 := encN.lstShp fr
  have q2 := encN.lstEq fr []
  rw [List.map_nil] at q2
  by_cases e : fr = []
  · subst e; simp [lN, eqv_l0]
  · simp [e, q1, q2, C2]
theorem lput1_ok (s : Sd) {a b : Nat} (ha : a < s.u.length) (hb : b < hs.length) (hg : s.g.length < 100000) : lZ (lE c old hs r s.u s.g y v7 v8 (some (.int a)) (some (.int b))) = some (.nx, lE c old hs r (put1 hs y s (a, b)).u (put1 hs y s (a, b)).g y v7 v8 (some (.int a)) (some (.int b))) := by
  have e : hs[b]? = some (hs[b]'hb) := List.getElem?_eq_getElem _
  have w := lf_of e
  have n : ixN s.u.length (a : Int) = some a := by
    unfold ixN
    rw [if_pos (Int.natCast_nonneg a), if_pos (by omega)]
    rfl
  have p := putD_gK s.g b y
  simp [e, n, hg, lN, p, put1, w, List.map_set]
theorem lrun_z (s : Sd) (fr rd : List Nat) (hu : s.u.length = c) (hc : c ≤ 6) (hfr : ∀ a ∈ fr, a < c) (hrd : ∀ b ∈ rd, b < hs.length) (hl : fr.length ≤ 6) (hg : s.g.length ≤ 90000) :
    Wp ((sFor (iZip (osCons (oV 7) (osCons (oV 8) osNil))) (gTup 2 (gsCons (gN (pu (sl2 7 8) (pu sl0 (pinOf [false, false, false, false]))) 9) (gsCons (gN (pu (sl2 7 8) (pu sl0 (pinOf [false, false, false, false]))) 10) gsNil))) (sSeq (sAsg (eOp2 addD (oV 6) (oE (eOp2 ixD2 (oE (eOp2 ixD2 (oV 2) (oV 10))) (oE (eK (.int 2)))))) (gSet 4 (eV 9))) (sAsg (eCa intOfD (osCons (oV 6) osNil)) (gSetD 5 (eV 10))))) (lE c old hs r s.u s.g y (some (lN fr)) (some (lN rd)) v9 v10)) fun k E' => k = .nx ∧ ∃ v9 v10, E' = lE c old hs r ((fr.zip rd).foldl (put1 hs y) s).u ((fr.zip rd).foldl (put1 hs y) s).g y (some (lN fr)) (some (lN rd)) v9 v10 := by
  refine wp_for_zip (t1 := .slot 7) (t2 := .slot 8) (s1 := .sl 7) (s2 := .sl 8) fr (fun i : Nat => D.int i) rd (fun i : Nat => D.int i)
    (fun j E => ∃ v9 v10, E = lE c old hs r (((fr.zip rd).take j).foldl (put1 hs y) s).u (((fr.zip rd).take j).foldl (put1 hs y) s).g y (some (lN fr)) (some (lN rd)) v9 v10)
    (by simp) (by simp [scOf, lN]) (by simp [scOf, lN]) (fun _ _ => rfl) (fun _ _ => rfl) ⟨v9, v10, rfl⟩ (fun j E h => by obtain ⟨_, _, rfl⟩ := h; rfl) (fun j E h => by obtain ⟨_, _, rfl⟩ := h; rfl) (fun j a b E ha hb h => ?_) (fun E h => ?_)
  · obtain ⟨v9, v10, rfl⟩ := h
    obtain ⟨q1, q2, q3⟩ := fold_put_len hs y ((fr.zip rd).take j) s
    have z : (fr.zip rd)[j]? = some (a, b) := by rw [List.getElem?_zip_eq_some]; exact ⟨ha, hb⟩
    have tk : (fr.zip rd).take (j + 1) = (fr.zip rd).take j ++ [(a, b)] := by rw [List.take_succ, z]; rfl
    have hz : ((fr.zip rd).take j).length ≤ 6 := by
      have : (fr.zip rd).length ≤ fr.length := by rw [List.length_zip]; omega
      have : ((fr.zip rd).take j).length ≤ (fr.zip rd).length := by rw [List.length_take]; omega
      omega
    generalize e : ((fr.zip rd).take j).foldl (put1 hs y) s = s' at *
    refine ⟨lE c old hs r s'.u s'.g y (some (lN fr)) (some (lN rd)) (some (.int a)) (some (.int b)), by simp [pu, sl2, sl0], ?_⟩
    have P := lput1_ok (y := y) c old hs r (some (lN fr)) (some (lN rd)) s' (a := a) (b := b) (by have := hfr a (List.mem_of_getElem? ha); omega) (hrd b (List.mem_of_getElem? hb)) (by omega)
    refine Wp.of P ?_
    show ∃ v9 v10, _ = _
    rw [tk, List.foldl_append, e]
    exact ⟨_, _, rfl⟩
  · obtain ⟨v9, v10, rfl⟩ := h
    refine ⟨rfl, v9, v10, ?_⟩
    rw [List.take_of_length_le (by rw [List.length_zip]; exact Nat.le_refl _)]
theorem lrun_y (s : Sd) (hu : s.u.length = c) (hc : c ≤ 6) (hr : ∀ b ∈ r, b < hs.length) (hl : r.length ≤ 100000) (hg : s.g.length ≤ 90000) :
    Wp (lY (lE c old hs r s.u s.g y v7 v8 v9 v10)) fun k E' => k = .nx ∧ ∃ v7 v8 v9 v10, E' = lE c old hs r (year1 c hs r s y).u (year1 c hs r s y).g y v7 v8 v9 v10 := by
  have C1 := fun v7 v8 => lrun_c1 c old hs r s.u s.g y v7 v8 v9 v10 hc hu
  have C2 := fun v8 => lrun_if c old hs r s.u s.g y (some (lN (fre c y s.u))) v8 v9 v10 hr hl _ rfl
  have Z := lrun_z c old hs r y v9 v10 s (fre c y s.u) (if fre c y s.u = [] then [] else rdy hs r s.g y) hu hc (fun a h => fre_lt h) (fun b h => by
    split at h
    · cases h
    · exact hr b (List.mem_filter.mp h).1) (by have := fre_len c y s.u; omega) hg
  have zz : (fre c y s.u).zip (if fre c y s.u = [] then [] else rdy hs r s.g y) = (fre c y s.u).zip (rdy hs r s.g y) := by
    split
    · rename_i h; rw [h]; rfl
    · rfl
  rw [zz] at Z
  unfold lY
  generalize (eComp (iRange 1 (osCons (oV 0) osNil)) [9] (gN (po [9]) 9) (bE (eOp2 leD (oE (eOp2 ixD2 (oV 4) (oV 9))) (oV 6))) (eV 9)) = X1 at C1 ⊢
  generalize (eIf (bE (eOp2 neD (oV 7) (oE (eLst osNil)))) (eComp (iSeq (oV 3)) [10] (gN (po [10]) 10) (bAnd (bE (eOp2 notInD2 (oV 10) (oV 5))) (bE (eOp2 leD (oE (eOp2 addD (oE (eOp2 ixD2 (oE (eOp2 ixD2 (oV 2) (oV 10))) (oE (eK (.int 0))))) (oE (eOp2 ixD2 (oE (eOp2 ixD2 (oV 2) (oV 10))) (oE (eK (.int 1))))))) (oV 6)))) (eV 10)) (eLst osNil)) = X2 at C2 ⊢
  generalize (sFor (iZip (osCons (oV 7) (osCons (oV 8) osNil))) (gTup 2 (gsCons (gN (pu (sl2 7 8) (pu sl0 (pinOf [false, false, false, false]))) 9) (gsCons (gN (pu (sl2 7 8) (pu sl0 (pinOf [false, false, false, false]))) 10) gsNil))) (sSeq (sAsg (eOp2 addD (oV 6) (oE (eOp2 ixD2 (oE (eOp2 ixD2 (oV 2) (oV 10))) (oE (eK (.int 2)))))) (gSet 4 (eV 9))) (sAsg (eCa intOfD (osCons (oV 6) osNil)) (gSetD 5 (eV 10))))) = X3 at Z ⊢
  simp [C1, C2, pu, sl0]
  exact Z.imp fun k E h => ⟨h.1, by obtain ⟨v10, v11, e⟩ := h.2; exact ⟨_, _, v10, v11, e⟩⟩
end
theorem F_places_h {hs : List Heir} (h : hs.length ≤ 4) : F__law_places [hsD hs] [false] = some (pR (List.range hs.length), [none]) := by
  have C := comp_range1 (r := osCons (oE (eCa lenD (osCons (oV 0) osNil))) osNil) (own := [1]) (τ := gN (po [1]) 1) (t := bYes) (x := eCa intOfD (osCons (oV 1) osNil)) (E := [some (hsD hs), none]) (E0 := [some (hsD hs), none]) (tk := .own (.int hs.length)) (n := (hs.length : Nat))
    (fun _ => true) (fun j => .int j) (by simp) rfl (fits_of (by omega) (by omega)) (by omega) (fun j hj => gives_of ⟨_, by simp [wipeE, po]; rfl, by simp [wipeE, bYes]⟩)
  have im := encN.imms (List.range hs.length)
  simp [F__law_places, mkF, B__law_places, outs, C, wipeE, backE, im, pR]
theorem F_law_run_h {c : Nat} {old : List Nat} {hs : List Heir} (t : Town c old hs) {r : List Nat} (hr : Rank hs.length r) : F__law_run [.int c, pR old, hsD hs, pR r] [false, false, false, false] = some (gT (giv c old hs r), [none, none, none, none]) := by
  refine Wp.eq (mkF_of rfl rfl ?_)
  have im := encN.imms old
  have im2 := encN.imms (List.replicate (c - old.length) 0)
  have fit : old.length + (c - old.length) ≤ 100000 := by
    have := t.ol; have := t.c6
    omega
  have mu := mul_eq t.ol t.c6
  have ls : lstOfD [pR old] = some (lN old) := by simp [lstOfD, pR, lN, D.seq?, im]
  have PL := F_places_h t.hl
  have R : ∀ v6 v7 v8 v9 v10, Wp ((sFor (iRange 1 (osCons (oE (eK (.int 61))) osNil)) (gN (pu sl0 (pinOf [false, false, false, false])) 6) (sSeq (sAsg (eComp (iRange 1 (osCons (oV 0) osNil)) [9] (gN (po [9]) 9) (bE (eOp2 leD (oE (eOp2 ixD2 (oV 4) (oV 9))) (oV 6))) (eV 9)) (gN (pu sl0 (pinOf [false, false, false, false])) 7)) (sSeq (sAsg (eIf (bE (eOp2 neD (oV 7) (oE (eLst osNil)))) (eComp (iSeq (oV 3)) [10] (gN (po [10]) 10) (bAnd (bE (eOp2 notInD2 (oV 10) (oV 5))) (bE (eOp2 leD (oE (eOp2 addD (oE (eOp2 ixD2 (oE (eOp2 ixD2 (oV 2) (oV 10))) (oE (eK (.int 0))))) (oE (eOp2 ixD2 (oE (eOp2 ixD2 (oV 2) (oV 10))) (oE (eK (.int 1))))))) (oV 6)))) (eV 10)) (eLst osNil)) (gN (pu sl0 (pinOf [false, false, false, false])) 8)) (sFor (iZip (osCons (oV 7) (osCons (oV 8) osNil))) (gTup 2 (gsCons (gN (pu (sl2 7 8) (pu sl0 (pinOf [false, false, false, false]))) 9) (gsCons (gN (pu (sl2 7 8) (pu sl0 (pinOf [false, false, false, false]))) 10) gsNil))) (sSeq (sAsg (eOp2 addD (oV 6) (oE (eOp2 ixD2 (oE (eOp2 ixD2 (oV 2) (oV 10))) (oE (eK (.int 2)))))) (gSet 4 (eV 9))) (sAsg (eCa intOfD (osCons (oV 6) osNil)) (gSetD 5 (eV 10)))))))) [some (.int c), some (pR old), some (hsD hs), some (pR r), some (lN (beg c old).u), some (.dcK []), v6, v7, v8, v9, v10]) fun k E' => k = .nx ∧ ∃ v6 v7 v8 v9 v10, E' = [some (.int c), some (pR old), some (hsD hs), some (pR r), some (lN (upTo c old hs r 61).u), some (.dcK (gK (upTo c old hs r 61).g)), v6, v7, v8, v9, v10] := fun v6 v7 v8 v9 v10 => by
    refine wp_for_range (tk := .own (.int 61)) 61 (fun j E => ∃ v6 v7 v8 v9 v10, E = [some (.int c), some (pR old), some (hsD hs), some (pR r), some (lN (upTo c old hs r j).u), some (.dcK (gK (upTo c old hs r j).g)), v6, v7, v8, v9, v10]) (E0 := [some (.int c), some (pR old), some (hsD hs), some (pR r), some (lN (beg c old).u), some (.dcK []), v6, v7, v8, v9, v10]) (by simp) rfl (by decide) ⟨v6, v7, v8, v9, v10, rfl⟩ (fun j E hj h => ?_) (fun E h => ⟨rfl, h⟩)
    obtain ⟨v6, v7, v8, v9, v10, rfl⟩ := h
    obtain ⟨l1, l2⟩ := len_small (r := r) t (y := j) (by omega)
    refine ⟨_, by simp [pu, sl0]; rfl, ?_⟩
    refine (lrun_y (y := j) c (pR old) hs r v7 v8 v9 v10 (upTo c old hs r j) (upTo_len c old hs r t.ol j).1 t.c6 (t.r0 hr) (by have := t.rl hr; omega) l1).imp fun k E h => ?_
    obtain ⟨rfl, v7, v8, v9, v10, rfl⟩ := h
    show ∃ v6 v7 v8 v9 v10, _ = _
    rw [upTo_s]
    exact ⟨_, _, _, _, _, rfl⟩
  have C3 : ∀ v6 v7 v8 v9 v10, (eComp (iSeq (oE (eF F__law_places (osCons (oV 2) osNil)))) [10] (gN (po [10]) 10) bYes (eMeth "dict" getD2 (oV 5) (osCons (oV 10) osNil))) [some (.int c), some (pR old), some (hsD hs), some (pR r), some (lN (upTo c old hs r 61).u), some (.dcK (gK (upTo c old hs r 61).g)), v6, v7, v8, v9, v10] = some (gL (giv c old hs r), [some (.int c), some (pR old), some (hsD hs), some (pR r), some (lN (upTo c old hs r 61).u), some (.dcK (gK (upTo c old hs r 61).g)), v6, v7, v8, v9, v10]) := fun v6 v7 v8 v9 v10 => by
    refine Wp.eq (wp_comp_seq (E0 := [some (.int c), some (pR old), some (hsD hs), some (pR r), some (lN (upTo c old hs r 61).u), some (.dcK (gK (upTo c old hs r 61).g)), v6, v7, v8, v9, v10]) (tk := .own (pR (List.range hs.length))) (s := .own (pR (List.range hs.length))) (List.range hs.length) (fun k : Nat => D.int k) (fun _ => true) (fun i => oN (lk (upTo c old hs r 61).g i)) (by simp [ioOf, ioSl, apart, putOuts, PL]) (by simp [scOf]) rfl rfl (by have := t.hl; simp; omega) (fun _ _ => rfl) (fun i _ => ?_) ?_)
    · refine ⟨_, by simp [wipeE, po]; rfl, ?_⟩
      cases h : lk (upTo c old hs r 61).g i <;> simp [wipeE, bYes, h, oN]
    · simp [wipeE, backE, gL, giv, Function.comp_def]
  have C := gL_tup (giv c old hs r)
  unfold B__law_run
  generalize (sFor (iRange 1 (osCons (oE (eK (.int 61))) osNil)) (gN (pu sl0 (pinOf [false, false, false, false])) 6) (sSeq (sAsg (eComp (iRange 1 (osCons (oV 0) osNil)) [9] (gN (po [9]) 9) (bE (eOp2 leD (oE (eOp2 ixD2 (oV 4) (oV 9))) (oV 6))) (eV 9)) (gN (pu sl0 (pinOf [false, false, false, false])) 7)) (sSeq (sAsg (eIf (bE (eOp2 neD (oV 7) (oE (eLst osNil)))) (eComp (iSeq (oV 3)) [10] (gN (po [10]) 10) (bAnd (bE (eOp2 notInD2 (oV 10) (oV 5))) (bE (eOp2 leD (oE (eOp2 addD (oE (eOp2 ixD2 (oE (eOp2 ixD2 (oV 2) (oV 10))) (oE (eK (.int 0))))) (oE (eOp2 ixD2 (oE (eOp2 ixD2 (oV 2) (oV 10))) (oE (eK (.int 1))))))) (oV 6)))) (eV 10)) (eLst osNil)) (gN (pu sl0 (pinOf [false, false, false, false])) 8)) (sFor (iZip (osCons (oV 7) (osCons (oV 8) osNil))) (gTup 2 (gsCons (gN (pu (sl2 7 8) (pu sl0 (pinOf [false, false, false, false]))) 9) (gsCons (gN (pu (sl2 7 8) (pu sl0 (pinOf [false, false, false, false]))) 10) gsNil))) (sSeq (sAsg (eOp2 addD (oV 6) (oE (eOp2 ixD2 (oE (eOp2 ixD2 (oV 2) (oV 10))) (oE (eK (.int 2)))))) (gSet 4 (eV 9))) (sAsg (eCa intOfD (osCons (oV 6) osNil)) (gSetD 5 (eV 10)))))))) = X1 at R ⊢
  generalize (eComp (iSeq (oE (eF F__law_places (osCons (oV 2) osNil)))) [10] (gN (po [10]) 10) bYes (eMeth "dict" getD2 (oV 5) (osCons (oV 10) osNil))) = X2 at C3 ⊢
  have q : ∀ v6 v7 v8 v9 v10, Wp (X1 [some (.int c), some (pR old), some (hsD hs), some (pR r), some (lN (beg c old).u), some (.dcK []), v6, v7, v8, v9, v10]) fun k E' => Wp (match k with | .nx => sRet (eCa tupOfD (osCons (oE X2) osNil)) E' | f => some (f, E')) fun f E => match f with | .rt d => d = gT (giv c old hs r) ∧ outs [false, false, false, false] E = [none, none, none, none] | .nx => D.non = gT (giv c old hs r) ∧ outs [false, false, false, false] E = [none, none, none, none] | _ => False := fun v7 v8 v9 v10 v11 => (R v7 v8 v9 v10 v11).imp fun k E h => by
    obtain ⟨rfl, v7, v8, v9, v10, v11, rfl⟩ := h
    simp [outs, C3, C]
  simp [beg, lN, -List.map_replicate] at q
  simp [mu, ls, im, im2, fit, -List.map_replicate]
  exact q _ _ _ _ _
end K59
end
section
namespace K59
open PySem PySem.Spec L2 Dn
/-- how long each waits -/
def wts (hs : List Heir) (g : List (Option Nat)) : List (Option Int) := (hs.zip g).map fun p => p.2.map fun y => (y : Int) - ((p.1.1 + p.1.2.1 : Nat) : Int)
def wL (w : List (Option Int)) : D := .lst (w.map oI)
theorem wL_shp (w : List (Option Int)) : (wL w).shp = true := encO.lstShp w
theorem wL_nil (w : List (Option Int)) : (wL w).eqv (.lst []) = decide (w = []) := by
  have q : (D.lst (w.map oI)).eqv (.lst (([] : List (Option Int)).map oI)) = decide (w = []) := encO.lstEq w []
  exact q
@[simp] theorem wL_imm (w : List (Option Int)) : (wL w).imm = false := rfl
@[simp] theorem wL_ty (w : List (Option Int)) : (wL w).ty = "list" := rfl
theorem wL_in (w : List (Option Int)) : inD2 .non (wL w) = some (.bl (decide (none ∈ w))) := by
  have a := wL_shp w
  have b := encO.has none w
  simp only [oI] at b
  unfold wL at a
  simp [wL, a, b]
def maxs : List Int → Int
  | [] => 0
  | n :: r => maxI n r
def lng (w : List (Option Int)) : Option Int := if w = [] ∨ none ∈ w then none else some (maxs (w.filterMap id))
theorem all_some {w : List (Option Int)} (h : none ∉ w) : w = (w.filterMap id).map some := by
  induction w with
  | nil => rfl
  | cons a w ih =>
    cases a with
    | none => exact absurd (List.mem_cons_self ..) h
    | some i => simp only [List.filterMap_cons, id, List.map_cons]; rw [← ih fun x => h (List.mem_cons_of_mem _ x)]
theorem wL_max {w : List (Option Int)} (h : none ∉ w) (h2 : w ≠ []) : mmD maxI [wL w] = some (.int (maxs (w.filterMap id))) := by
  have e := all_some h
  generalize w.filterMap id = ns at e
  subst e
  have z : ns ≠ [] := fun z => h2 (by rw [z]; rfl)
  have q : (ns.map some).map oI = ns.map D.int := by rw [List.map_map]; rfl
  unfold wL
  rw [q]
  cases ns with
  | nil => exact absurd rfl z
  | cons n r => simp only [mmD, D.lst?, Option.bind_some, intsD_ints, maxs]
theorem isN_oN (o : Option Nat) : (oN o).isN = o.isNone := by cases o <;> rfl
theorem isN_oI (o : Option Int) : (oI o).isN = o.isNone := by cases o <;> rfl
theorem F_waits_by_h (hs : List Heir) (hl : hs.length ≤ 4) (g : List (Option Nat)) : F_waits_by [hsD hs, gL g] [false, false] = some (wL (wts hs g), [none, none]) := by
  have Z : lzD [hsD hs, gL g] = some (.lst ((hs.zip g).map fun p => .tup [hD p.1, oN p.2])) := by
    have a := encH.imms hs
    have b := encON.imms g
    simp only [lzD, hsD, gL, D.seq?, Option.bind_some, a, b, List.length_map]
    rw [if_pos ⟨by omega, trivial, trivial⟩, List.zip_map, List.map_map]
    rfl
  have C : (eComp (iSeq (oV 2)) [3, 4] (gTup 2 (gsCons (gN (po [3, 4]) 3) (gsCons (gN (po [3, 4]) 4) gsNil))) bYes (eIf (bE (eOp2 isND (oV 4) (oE (eK .non)))) (eK .non) (eOp2 subD (oV 4) (oE (eF F_waited_from (osCons (oV 3) osNil)))))) [some (hsD hs), some (gL g), some (.lst ((hs.zip g).map fun p => .tup [hD p.1, oN p.2])), none, none] = some (wL (wts hs g), [some (hsD hs), some (gL g), some (.lst ((hs.zip g).map fun p => .tup [hD p.1, oN p.2])), none, none]) := by
    refine Wp.eq (wp_comp_seq (tk := .slot 2) (s := .sl 2) (hs.zip g) (fun p => .tup [hD p.1, oN p.2]) (fun _ => true) (fun p => oI (p.2.map fun y => (y : Int) - ((p.1.1 + p.1.2.1 : Nat) : Int))) rfl (by simp [scOf]) rfl rfl (by rw [List.length_zip]; omega) (fun p _ => by simp [encON.imm]) (fun p _ => ?_) ?_)
    · refine ⟨_, by simp [wipeE, po]; rfl, ?_⟩
      obtain ⟨h, o⟩ := p
      cases o <;> simp [wipeE, bYes, oN, oI, F_waited_h, ioOf, ioSl, apart, putOuts]
    · simp [wipeE, backE, wL, wts, Function.comp_def]
  simp only [F_waits_by, mkF, B_waits_by]
  generalize (eComp (iSeq (oV 2)) [3, 4] (gTup 2 (gsCons (gN (po [3, 4]) 3) (gsCons (gN (po [3, 4]) 4) gsNil))) bYes (eIf (bE (eOp2 isND (oV 4) (oE (eK .non)))) (eK .non) (eOp2 subD (oV 4) (oE (eF F_waited_from (osCons (oV 3) osNil)))))) = X1 at C ⊢
  simp [outs, Z, C]
theorem F_greatest_h (hs : List Heir) (hl : hs.length ≤ 4) (g : List (Option Nat)) : F__law_greatest [hsD hs, gT g] [false, false] = some (oI (lng (wts hs g)), [none, none]) := by
  have C : (eComp (iZip (osCons (oV 0) (osCons (oV 1) osNil))) [3, 4] (gTup 2 (gsCons (gN (po [3, 4]) 3) (gsCons (gN (po [3, 4]) 4) gsNil))) bYes (eIf (bE (eOp2 isND (oV 4) (oE (eK .non)))) (eK .non) (eOp2 subD (oE (eOp2 subD (oV 4) (oE (eOp2 ixD2 (oV 3) (oE (eK (.int 0))))))) (oE (eOp2 ixD2 (oV 3) (oE (eK (.int 1)))))))) [some (hsD hs), some (gT g), none, none, none] = some (wL (wts hs g), [some (hsD hs), some (gT g), none, none, none]) := by
    have Q := comp_zip (r := osCons (oV 0) (osCons (oV 1) osNil)) (own := [3, 4]) (τ := gTup 2 (gsCons (gN (po [3, 4]) 3) (gsCons (gN (po [3, 4]) 4) gsNil))) (t := bYes) (x := (eIf (bE (eOp2 isND (oV 4) (oE (eK .non)))) (eK .non) (eOp2 subD (oE (eOp2 subD (oV 4) (oE (eOp2 ixD2 (oV 3) (oE (eK (.int 0))))))) (oE (eOp2 ixD2 (oV 3) (oE (eK (.int 1)))))))) (E := [some (hsD hs), some (gT g), none, none, none]) (E0 := [some (hsD hs), some (gT g), none, none, none]) (t1 := .slot 0) (t2 := .slot 1) (s1 := .own (hsD hs)) (s2 := .own (gT g))
      hs hD g oN (fun _ _ => true) (fun h o => oI (o.map fun y => (y : Int) - ((h.1 + h.2.1 : Nat) : Int))) (by simp) (by simp [scOf]) rfl (by simp [scOf]) rfl rfl rfl (by omega) (fun _ _ => rfl) (fun _ _ => encON.imm _) (fun j h o _ _ => gives_of ⟨_, by simp [wipeE, po]; rfl, by
        cases o <;> simp [wipeE, bYes, oN, oI]
        omega⟩)
    rw [Q, filter_yes]
    simp [wipeE, backE, wL, wts, Function.comp_def]
  have N := wL_in (wts hs g)
  have S := wL_shp (wts hs g)
  have E := wL_nil (wts hs g)
  simp only [F__law_greatest, mkF, B__law_greatest]
  generalize (eComp (iZip (osCons (oV 0) (osCons (oV 1) osNil))) [3, 4] (gTup 2 (gsCons (gN (po [3, 4]) 3) (gsCons (gN (po [3, 4]) 4) gsNil))) bYes (eIf (bE (eOp2 isND (oV 4) (oE (eK .non)))) (eK .non) (eOp2 subD (oE (eOp2 subD (oV 4) (oE (eOp2 ixD2 (oV 3) (oE (eK (.int 0))))))) (oE (eOp2 ixD2 (oV 3) (oE (eK (.int 1)))))))) = X1 at C ⊢
  generalize wts hs g = w at *
  by_cases h1 : w = []
  · subst h1
    simp [outs, C, S, E, lng, oI]
  · by_cases h2 : none ∈ w
    · simp [outs, C, S, E, N, h1, h2, lng, oI]
    · have M := wL_max h2 h1
      simp [outs, C, S, E, N, h1, h2, lng, oI, M]
theorem F_longest_by_h {c : Nat} {old : List Nat} {hs : List Heir} (t : Town c old hs) {r : List Nat} (hr : Rank hs.length r) : F_longest_by [.int c, pR old, hsD hs, pR r] [false, false, false, false] = some (oI (lng (wts hs (giv c old hs r))), [none, none, none, none]) := by
  have G := F_given_by_h t hr
  have W := F_waits_by_h hs t.hl (giv c old hs r)
  generalize hw : wts hs (giv c old hs r) = w at *
  have N := wL_in w
  have S := wL_shp w
  have E := wL_nil w
  by_cases h1 : w = []
  · subst h1
    simp [F_longest_by, mkF, B_longest_by, outs, ioOf, ioSl, apart, putOuts, G, W, N, S, E, lng, oI]
  · by_cases h2 : none ∈ w
    · simp [F_longest_by, mkF, B_longest_by, outs, ioOf, ioSl, apart, putOuts, G, W, N, S, E, h1, h2, lng, oI]
    · have M := wL_max h2 h1
      simp [F_longest_by, mkF, B_longest_by, outs, ioOf, ioSl, apart, putOuts, G, W, N, S, E, h1, h2, lng, oI, M]
theorem F_longest_wait_h {c : Nat} {old : List Nat} {hs : List Heir} (t : Town c old hs) {r : List Nat} (hr : Rank hs.length r) : ∃ d, F_longest_wait [.int c, pR old, hsD hs, pR r] [false, false, false, false] = some (d, [none, none, none, none]) ∧ ((d = .non ∧ lng (wts hs (giv c old hs r)) = none) ∨ ∃ k : Nat, d = .tup [oI (lng (wts hs (giv c old hs r))), .int k]) := by
  have A := F_check_ranked_h t hr
  have G := F_given_by_h t hr
  have W := F_waits_by_h hs t.hl (giv c old hs r)
  generalize hw : wts hs (giv c old hs r) = w at *
  have N := wL_in w
  have S := wL_shp w
  have E := wL_nil w
  by_cases h1 : w = []
  · subst h1
    refine ⟨.non, ?_, .inl ⟨rfl, by simp [lng]⟩⟩
    simp [F_longest_wait, mkF, B_longest_wait, outs, ioOf, ioSl, apart, putOuts, A, G, W, N, S, E]
  · have ix : ∀ o ∈ w, ∃ j, idxD "list" (wL w) [oI o] = some (.int (j : Nat)) := fun o ho => by
      have f := encO.find o w
      have so : (oI o).shp = true := encO.shp o
      cases h : w.findIdx? (fun b => decide (b = o)) with
      | none => exact absurd (List.findIdx?_eq_none_iff.mp h o ho) (by simp)
      | some j =>
        rw [h] at f
        refine ⟨j, ?_⟩
        unfold wL at S ⊢
        simp [idxD, S, so, f]
    by_cases h2 : none ∈ w
    · obtain ⟨j, ej⟩ := ix none h2
      refine ⟨.tup [.non, .int j], ?_, .inr ⟨j, by simp [lng, h2, oI]⟩⟩
      simp only [oI] at ej
      simp [F_longest_wait, mkF, B_longest_wait, outs, ioOf, ioSl, apart, putOuts, A, G, W, N, S, E, h1, h2, ej]
    · have M := wL_max h2 h1
      have mm : some (maxs (w.filterMap id)) ∈ w := by
        have e := all_some h2
        cases hn : w.filterMap id with
        | nil => rw [hn] at e; exact absurd e h1
        | cons n l =>
          rw [hn] at e
          rw [e]
          have := (maxI_is l n).1
          refine List.mem_map.mpr ⟨_, ?_, rfl⟩
          rcases this with q | q
          · show maxI n l ∈ _
            rw [q]; exact List.mem_cons_self ..
          · exact List.mem_cons_of_mem _ q
      obtain ⟨j, ej⟩ := ix _ mm
      simp only [oI] at ej
      refine ⟨.tup [.int (maxs (w.filterMap id)), .int j], ?_, .inr ⟨j, by simp [lng, h2, h1, oI]⟩⟩
      simp [F_longest_wait, mkF, B_longest_wait, outs, ioOf, ioSl, apart, putOuts, A, G, W, N, S, E, h1, h2, M, ej]
end K59
end
section
namespace K59
open PySem PySem.Spec L2 Dn
/-! ### the ranks of so many -/
def longer (n : Nat) (p : List Nat) : List (List Nat) := ((List.range n).filter fun k => decide (k ∉ p)).map fun k => p ++ [k]
def rowsAt (n : Nat) : Nat → List (List Nat)
  | 0 => [[]]
  | j + 1 => (rowsAt n j).flatMap (longer n)
abbrev ranks (n : Nat) : List (List Nat) := rowsAt n n
theorem longer_len (n : Nat) (p : List Nat) : (longer n p).length ≤ n := by
  unfold longer
  rw [List.length_map]
  exact Nat.le_trans (List.length_filter_le _ _) (by simp)
theorem flat_len (n : Nat) : ∀ R : List (List Nat), (R.flatMap (longer n)).length ≤ n * R.length
  | [] => by simp
  | p :: R => by
    have := flat_len n R
    have := longer_len n p
    rw [List.flatMap_cons, List.length_append, List.length_cons, Nat.mul_succ]
    omega
theorem rows_small {n : Nat} (hn : n ≤ 4) : ∀ j : Nat, j ≤ 4 → (rowsAt n j).length ≤ 256 := by
  have q : ∀ j : Nat, (rowsAt n j).length ≤ 4 ^ j := fun j => by
    induction j with
    | zero => simp [rowsAt]
    | succ j ih =>
      have := flat_len n (rowsAt n j)
      have : n * (rowsAt n j).length ≤ 4 * 4 ^ j := Nat.mul_le_mul hn ih
      rw [Nat.pow_succ]
      show ((rowsAt n j).flatMap (longer n)).length ≤ _
      omega
  intro j hj
  exact Nat.le_trans (q j) (Nat.pow_le_pow_right (by decide) hj)
theorem rows_lt {n : Nat} : ∀ j : Nat, ∀ p ∈ rowsAt n j, p.length = j ∧ p.Nodup ∧ ∀ k ∈ p, k < n
  | 0, p, h => by
    simp only [rowsAt, List.mem_singleton] at h
    subst h
    exact ⟨rfl, List.nodup_nil, fun k hk => by cases hk⟩
  | j + 1, p, h => by
    simp only [rowsAt, List.mem_flatMap] at h
    obtain ⟨q, hq, hp⟩ := h
    obtain ⟨l, nd, lt⟩ := rows_lt j q hq
    simp only [longer, List.mem_map, List.mem_filter, List.mem_range, decide_eq_true_eq] at hp
    obtain ⟨k, ⟨hk, hn⟩, rfl⟩ := hp
    refine ⟨by simp [l], ?_, fun i hi => ?_⟩
    · rw [List.nodup_append]
      exact ⟨nd, by simp, fun a ha b hb => by rw [List.mem_singleton.mp hb]; exact fun e => hn (by rw [← e]; exact ha)⟩
    · rcases List.mem_append.mp hi with e | e
      · exact lt i e
      · rw [List.mem_singleton.mp e]; exact hk
theorem rank_of_mem {n : Nat} (hn : n ≤ 4) {p : List Nat} (h : p ∈ ranks n) : Rank n p := by
  have A : ∀ n : Fin 5, ((ranks n.1).all fun p => p.isPerm (List.range n.1)) = true := by decide
  have B := A ⟨n, by omega⟩
  rw [List.all_eq_true] at B
  exact List.isPerm_iff.mp (B p h)
theorem ranks_ne {n : Nat} (hn : n ≤ 4) : ranks n ≠ [] := by
  have A : ∀ n : Fin 5, ranks n.1 ≠ [] := by decide
  exact A ⟨n, by omega⟩
def rL (R : List (List Nat)) : D := .lst (R.map pR)
theorem ro_c {n : Nat} (hn : n ≤ 4) (p : List Nat) (hp : p.length ≤ 4) (v1 v2 v3 v5 : Option D) : (eComp (iRange 1 (osCons (oV 0) osNil)) [5] (gN (po [5]) 5) (bE (eOp2 notInD2 (oV 5) (oV 4))) (eTup (osStar (oV 4) (osCons (oE (eV 5)) osNil)))) [some (.int n), v1, v2, v3, some (pR p), v5] = some (rL (longer n p), [some (.int n), v1, v2, v3, some (pR p), v5]) := by
  have im := encN.imms p
  refine Wp.eq (wp_comp_range (E0 := [some (.int n), v1, v2, v3, some (pR p), v5]) n (fun j => decide (j ∉ p)) (fun j => pR (p ++ [j])) (by simp; rfl) rfl (by omega) (fun j hj => ?_) ?_)
  · refine ⟨_, by simp [wipeE, po]; rfl, ?_⟩
    have a := encN.tupShp p
    have b := encN.has j p
    have e : (pR p) = .tup (p.map fun k : Nat => D.int k) := rfl
    have fit : p.length + 1 ≤ 1000 := by omega
    have fit2 : p.length + 1 ≤ 100000 := by omega
    by_cases q : j ∈ p <;> simp [e, pR, a, b, q, wipeE, im, fit, fit2]
  · simp [wipeE, backE, rL, longer, Function.comp_def]
theorem ro_i {n : Nat} (hn : n ≤ 4) (R : List (List Nat)) (hR : R.length ≤ 256) (hp : ∀ p ∈ R, p.length ≤ 4) (v2 v4 v5 : Option D) : Wp ((sFor (iSeq (oV 1)) (gN (pu (sl1 1) (pu sl0 (pinOf [false]))) 4) (sExp (eMut1 3 extF (eComp (iRange 1 (osCons (oV 0) osNil)) [5] (gN (po [5]) 5) (bE (eOp2 notInD2 (oV 5) (oV 4))) (eTup (osStar (oV 4) (osCons (oE (eV 5)) osNil))))))) [some (.int n), some (rL R), v2, some (.lst []), v4, v5]) fun k E => k = .nx ∧ ∃ v4 v5, E = [some (.int n), some (rL R), v2, some (.lst ((R.flatMap (longer n)).map pR)), v4, v5] := by
  refine wp_for_seq (tk := .slot 1) (s := .sl 1) R pR (fun j E => ∃ v4 v5, E = [some (.int n), some (rL R), v2, some (.lst (((R.take j).flatMap (longer n)).map pR)), v4, v5]) rfl (by simp [scOf, rL]) (fun p _ => pR_imm p) ⟨v4, v5, by simp [rL]⟩ (fun j E h => by obtain ⟨_, _, rfl⟩ := h; rfl) (fun j p E hj h => ?_) (fun E h => ?_)
  · obtain ⟨v4, v5, rfl⟩ := h
    refine ⟨_, by simp [pu, sl1, sl0]; rfl, ?_⟩
    have tk : R.take (j + 1) = R.take j ++ [p] := by rw [List.take_succ, hj]; rfl
    have l := flat_len n (R.take j)
    have l2 : (R.take j).length ≤ 256 := by rw [List.length_take]; omega
    have l3 : n * (R.take j).length ≤ 4 * 256 := Nat.mul_le_mul hn l2
    have l4 := longer_len n p
    have C := fun v3 => ro_c hn p (hp p (List.mem_of_getElem? hj)) (some (rL R)) v2 v3 v5
    have X : extF (((R.take j).flatMap (longer n)).map pR) (rL (longer n p)) = some (.non, ((R.take j).flatMap (longer n)).map pR ++ (longer n p).map pR) := if_pos (by simp only [List.length_map]; omega)
    have sp : (R.take (j + 1)).flatMap (longer n) = (R.take j).flatMap (longer n) ++ longer n p := by rw [tk, List.flatMap_append, List.flatMap_singleton]
    generalize (R.take j).flatMap (longer n) = A at *
    generalize (eComp (iRange 1 (osCons (oV 0) osNil)) [5] (gN (po [5]) 5) (bE (eOp2 notInD2 (oV 5) (oV 4))) (eTup (osStar (oV 4) (osCons (oE (eV 5)) osNil)))) = X1 at C ⊢
    refine Wp.of (a := .nx) (E := [some (.int n), some (rL R), v2, some (.lst (A.map pR ++ (longer n p).map pR)), some (pR p), v5]) (by simp [C, X]) ?_
    show ∃ v4 v5, _ = _
    rw [sp, List.map_append]
    exact ⟨_, _, rfl⟩
  · obtain ⟨v4, v5, rfl⟩ := h
    exact ⟨rfl, v4, v5, by rw [List.take_length]⟩
theorem F_ro_h {n : Nat} (hn : n ≤ 4) : F_ranks_of [.int n] [false] = some (rL (ranks n), [none]) := by
  refine Wp.eq (mkF_of rfl rfl ?_)
  have R : ∀ v2 v3 v4 v5, Wp ((sFor (iRange 1 (osCons (oV 0) osNil)) (gN (pu sl0 (pinOf [false])) 2) (sSeq (sAsg (eLst osNil) (gN (pu sl0 (pinOf [false])) 3)) (sSeq (sFor (iSeq (oV 1)) (gN (pu (sl1 1) (pu sl0 (pinOf [false]))) 4) (sExp (eMut1 3 extF (eComp (iRange 1 (osCons (oV 0) osNil)) [5] (gN (po [5]) 5) (bE (eOp2 notInD2 (oV 5) (oV 4))) (eTup (osStar (oV 4) (osCons (oE (eV 5)) osNil))))))) (sAsg (eV 3) (gN (pu sl0 (pinOf [false])) 1))))) [some (.int n), some (rL [[]]), v2, v3, v4, v5]) fun k E => k = .nx ∧ ∃ v2 v3 v4 v5, E = [some (.int n), some (rL (ranks n)), v2, v3, v4, v5] := fun v2 v3 v4 v5 => by
    refine wp_for_range (tk := .slot 0) n (fun j E => ∃ v2 v3 v4 v5, E = [some (.int n), some (rL (rowsAt n j)), v2, v3, v4, v5]) (E0 := [some (.int n), some (rL [[]]), v2, v3, v4, v5]) (by simp) rfl (by omega) ⟨v2, v3, v4, v5, rfl⟩ (fun j E hj h => ?_) (fun E h => ⟨rfl, h⟩)
    obtain ⟨v2, v3, v4, v5, rfl⟩ := h
    refine ⟨_, by simp [pu, sl0]; rfl, ?_⟩
    have I := ro_i hn (rowsAt n j) (rows_small hn j (by omega)) (fun p hp => by have := (rows_lt j p hp).1; omega)
    generalize (sFor (iSeq (oV 1)) (gN (pu (sl1 1) (pu sl0 (pinOf [false]))) 4) (sExp (eMut1 3 extF (eComp (iRange 1 (osCons (oV 0) osNil)) [5] (gN (po [5]) 5) (bE (eOp2 notInD2 (oV 5) (oV 4))) (eTup (osStar (oV 4) (osCons (oE (eV 5)) osNil))))))) = X1 at I ⊢
    have q : ∀ v2 v4 v5, Wp (X1 [some (.int n), some (rL (rowsAt n j)), v2, some (.lst []), v4, v5]) fun k E' => Wp (match k with | .nx => sAsg (eV 3) (gN (pu sl0 (pinOf [false])) 1) E' | f => some (f, E')) (After (fun j E => ∃ v2 v3 v4 v5, E = [some (.int n), some (rL (rowsAt n j)), v2, v3, v4, v5]) (fun k E => k = Fl.nx ∧ ∃ v2 v3 v4 v5, E = [some (.int n), some (rL (ranks n)), v2, v3, v4, v5]) j) := fun v2 v4 v5 => (I v2 v4 v5).imp fun k E h => by
      obtain ⟨rfl, v4, v5, rfl⟩ := h
      refine Wp.of (a := .nx) (E := [some (.int n), some (rL ((rowsAt n j).flatMap (longer n))), v2, none, v4, v5]) (by simp [pu, sl0, rL]) ?_
      exact ⟨_, _, _, _, rfl⟩
    simp [pu, sl0] at q
    simp [pu, sl0]
    exact q _ _ _
  unfold B_ranks_of
  generalize (sFor (iRange 1 (osCons (oV 0) osNil)) (gN (pu sl0 (pinOf [false])) 2) (sSeq (sAsg (eLst osNil) (gN (pu sl0 (pinOf [false])) 3)) (sSeq (sFor (iSeq (oV 1)) (gN (pu (sl1 1) (pu sl0 (pinOf [false]))) 4) (sExp (eMut1 3 extF (eComp (iRange 1 (osCons (oV 0) osNil)) [5] (gN (po [5]) 5) (bE (eOp2 notInD2 (oV 5) (oV 4))) (eTup (osStar (oV 4) (osCons (oE (eV 5)) osNil))))))) (sAsg (eV 3) (gN (pu sl0 (pinOf [false])) 1))))) = X1 at R ⊢
  have q : ∀ v2 v3 v4 v5, Wp (X1 [some (.int n), some (rL [[]]), v2, v3, v4, v5]) fun k E' => Wp (match k with | .nx => sRet (eV 1) E' | f => some (f, E')) fun f E => match f with | .rt d => d = rL (ranks n) ∧ outs [false] E = [none] | .nx => D.non = rL (ranks n) ∧ outs [false] E = [none] | _ => False := fun v2 v3 v4 v5 => (R v2 v3 v4 v5).imp fun k E h => by
    obtain ⟨rfl, v2, v3, v4, v5, rfl⟩ := h
    simp [outs, rL]
  have e : rL [[]] = .lst [.tup []] := rfl
  rw [e] at q
  simp
  exact q _ _ _ _
theorem lr_c {n : Nat} (hn : n ≤ 4) (p : List Nat) (hp : p.length ≤ 4) (v1 v2 v3 v5 : Option D) : (eComp (iRange 1 (osCons (oV 0) osNil)) [5] (gN (po [5]) 5) (bE (eOp2 notInD2 (oV 5) (oV 4))) (eOp2 addD (oV 4) (oE (eTup (osCons (oE (eCa intOfD (osCons (oV 5) osNil))) osNil))))) [some (.int n), v1, v2, v3, some (pR p), v5] = some (rL (longer n p), [some (.int n), v1, v2, v3, some (pR p), v5]) := by
  have im := encN.imms p
  refine Wp.eq (wp_comp_range (E0 := [some (.int n), v1, v2, v3, some (pR p), v5]) n (fun j => decide (j ∉ p)) (fun j => pR (p ++ [j])) (by simp; rfl) rfl (by omega) (fun j hj => ?_) ?_)
  · refine ⟨_, by simp [wipeE, po]; rfl, ?_⟩
    have a := encN.tupShp p
    have b := encN.has j p
    have e : (pR p) = .tup (p.map fun k : Nat => D.int k) := rfl
    have fit : p.length + 1 ≤ 1000 := by omega
    have fit2 : p.length + 1 ≤ 100000 := by omega
    by_cases q : j ∈ p <;> simp [e, pR, a, b, q, wipeE, im, fit, fit2]
  · simp [wipeE, backE, rL, longer, Function.comp_def]
theorem lr_i {n : Nat} (hn : n ≤ 4) (R : List (List Nat)) (hR : R.length ≤ 256) (hp : ∀ p ∈ R, p.length ≤ 4) (v2 v4 v5 : Option D) : Wp ((sFor (iSeq (oV 1)) (gN (pu (sl1 1) (pu sl0 (pinOf [false]))) 4) (sExp (eMut1 3 extF (eComp (iRange 1 (osCons (oV 0) osNil)) [5] (gN (po [5]) 5) (bE (eOp2 notInD2 (oV 5) (oV 4))) (eOp2 addD (oV 4) (oE (eTup (osCons (oE (eCa intOfD (osCons (oV 5) osNil))) osNil)))))))) [some (.int n), some (rL R), v2, some (.lst []), v4, v5]) fun k E => k = .nx ∧ ∃ v4 v5, E = [some (.int n), some (rL R), v2, some (.lst ((R.flatMap (longer n)).map pR)), v4, v5] := by
  refine wp_for_seq (tk := .slot 1) (s := .sl 1) R pR (fun j E => ∃ v4 v5, E = [some (.int n), some (rL R), v2, some (.lst (((R.take j).flatMap (longer n)).map pR)), v4, v5]) rfl (by simp [scOf, rL]) (fun p _ => pR_imm p) ⟨v4, v5, by simp [rL]⟩ (fun j E h => by obtain ⟨_, _, rfl⟩ := h; rfl) (fun j p E hj h => ?_) (fun E h => ?_)
  · obtain ⟨v4, v5, rfl⟩ := h
    refine ⟨_, by simp [pu, sl1, sl0]; rfl, ?_⟩
    have tk : R.take (j + 1) = R.take j ++ [p] := by rw [List.take_succ, hj]; rfl
    have l := flat_len n (R.take j)
    have l2 : (R.take j).length ≤ 256 := by rw [List.length_take]; omega
    have l3 : n * (R.take j).length ≤ 4 * 256 := Nat.mul_le_mul hn l2
    have l4 := longer_len n p
    have C := fun v3 => lr_c hn p (hp p (List.mem_of_getElem? hj)) (some (rL R)) v2 v3 v5
    have X : extF (((R.take j).flatMap (longer n)).map pR) (rL (longer n p)) = some (.non, ((R.take j).flatMap (longer n)).map pR ++ (longer n p).map pR) := if_pos (by simp only [List.length_map]; omega)
    have sp : (R.take (j + 1)).flatMap (longer n) = (R.take j).flatMap (longer n) ++ longer n p := by rw [tk, List.flatMap_append, List.flatMap_singleton]
    generalize (R.take j).flatMap (longer n) = A at *
    generalize (eComp (iRange 1 (osCons (oV 0) osNil)) [5] (gN (po [5]) 5) (bE (eOp2 notInD2 (oV 5) (oV 4))) (eOp2 addD (oV 4) (oE (eTup (osCons (oE (eCa intOfD (osCons (oV 5) osNil))) osNil))))) = X1 at C ⊢
    refine Wp.of (a := .nx) (E := [some (.int n), some (rL R), v2, some (.lst (A.map pR ++ (longer n p).map pR)), some (pR p), v5]) (by simp [C, X]) ?_
    show ∃ v4 v5, _ = _
    rw [sp, List.map_append]
    exact ⟨_, _, rfl⟩
  · obtain ⟨v4, v5, rfl⟩ := h
    exact ⟨rfl, v4, v5, by rw [List.take_length]⟩
theorem F_lr_h {n : Nat} (hn : n ≤ 4) : F__law_ranks [.int n] [false] = some (rL (ranks n), [none]) := by
  refine Wp.eq (mkF_of rfl rfl ?_)
  have R : ∀ v2 v3 v4 v5, Wp ((sFor (iRange 1 (osCons (oV 0) osNil)) (gN (pu sl0 (pinOf [false])) 2) (sSeq (sAsg (eLst osNil) (gN (pu sl0 (pinOf [false])) 3)) (sSeq (sFor (iSeq (oV 1)) (gN (pu (sl1 1) (pu sl0 (pinOf [false]))) 4) (sExp (eMut1 3 extF (eComp (iRange 1 (osCons (oV 0) osNil)) [5] (gN (po [5]) 5) (bE (eOp2 notInD2 (oV 5) (oV 4))) (eOp2 addD (oV 4) (oE (eTup (osCons (oE (eCa intOfD (osCons (oV 5) osNil))) osNil)))))))) (sAsg (eV 3) (gN (pu sl0 (pinOf [false])) 1))))) [some (.int n), some (rL [[]]), v2, v3, v4, v5]) fun k E => k = .nx ∧ ∃ v2 v3 v4 v5, E = [some (.int n), some (rL (ranks n)), v2, v3, v4, v5] := fun v2 v3 v4 v5 => by
    refine wp_for_range (tk := .slot 0) n (fun j E => ∃ v2 v3 v4 v5, E = [some (.int n), some (rL (rowsAt n j)), v2, v3, v4, v5]) (E0 := [some (.int n), some (rL [[]]), v2, v3, v4, v5]) (by simp) rfl (by omega) ⟨v2, v3, v4, v5, rfl⟩ (fun j E hj h => ?_) (fun E h => ⟨rfl, h⟩)
    obtain ⟨v2, v3, v4, v5, rfl⟩ := h
    refine ⟨_, by simp [pu, sl0]; rfl, ?_⟩
    have I := lr_i hn (rowsAt n j) (rows_small hn j (by omega)) (fun p hp => by have := (rows_lt j p hp).1; omega)
    generalize (sFor (iSeq (oV 1)) (gN (pu (sl1 1) (pu sl0 (pinOf [false]))) 4) (sExp (eMut1 3 extF (eComp (iRange 1 (osCons (oV 0) osNil)) [5] (gN (po [5]) 5) (bE (eOp2 notInD2 (oV 5) (oV 4))) (eOp2 addD (oV 4) (oE (eTup (osCons (oE (eCa intOfD (osCons (oV 5) osNil))) osNil)))))))) = X1 at I ⊢
    have q : ∀ v2 v4 v5, Wp (X1 [some (.int n), some (rL (rowsAt n j)), v2, some (.lst []), v4, v5]) fun k E' => Wp (match k with | .nx => sAsg (eV 3) (gN (pu sl0 (pinOf [false])) 1) E' | f => some (f, E')) (After (fun j E => ∃ v2 v3 v4 v5, E = [some (.int n), some (rL (rowsAt n j)), v2, v3, v4, v5]) (fun k E => k = Fl.nx ∧ ∃ v2 v3 v4 v5, E = [some (.int n), some (rL (ranks n)), v2, v3, v4, v5]) j) := fun v2 v4 v5 => (I v2 v4 v5).imp fun k E h => by
      obtain ⟨rfl, v4, v5, rfl⟩ := h
      refine Wp.of (a := .nx) (E := [some (.int n), some (rL ((rowsAt n j).flatMap (longer n))), v2, none, v4, v5]) (by simp [pu, sl0, rL]) ?_
      exact ⟨_, _, _, _, rfl⟩
    simp [pu, sl0] at q
    simp [pu, sl0]
    exact q _ _ _
  unfold B__law_ranks
  generalize (sFor (iRange 1 (osCons (oV 0) osNil)) (gN (pu sl0 (pinOf [false])) 2) (sSeq (sAsg (eLst osNil) (gN (pu sl0 (pinOf [false])) 3)) (sSeq (sFor (iSeq (oV 1)) (gN (pu (sl1 1) (pu sl0 (pinOf [false]))) 4) (sExp (eMut1 3 extF (eComp (iRange 1 (osCons (oV 0) osNil)) [5] (gN (po [5]) 5) (bE (eOp2 notInD2 (oV 5) (oV 4))) (eOp2 addD (oV 4) (oE (eTup (osCons (oE (eCa intOfD (osCons (oV 5) osNil))) osNil)))))))) (sAsg (eV 3) (gN (pu sl0 (pinOf [false])) 1))))) = X1 at R ⊢
  have q : ∀ v2 v3 v4 v5, Wp (X1 [some (.int n), some (rL [[]]), v2, v3, v4, v5]) fun k E' => Wp (match k with | .nx => sRet (eV 1) E' | f => some (f, E')) fun f E => match f with | .rt d => d = rL (ranks n) ∧ outs [false] E = [none] | .nx => D.non = rL (ranks n) ∧ outs [false] E = [none] | _ => False := fun v2 v3 v4 v5 => (R v2 v3 v4 v5).imp fun k E h => by
    obtain ⟨rfl, v2, v3, v4, v5, rfl⟩ := h
    simp [outs, rL]
  have e : rL [[]] = .lst [.tup []] := rfl
  rw [e] at q
  simp
  exact q _ _ _ _
end K59
end
section
namespace K59
open PySem PySem.Spec PySem.W PyProof.Rows L2 Dn
/-! ### the least of rows -/
def rD (p : Int × List Nat) : D := .tup [.int p.1, pR p.2]
theorem encRow : EncP rD 2 := (encI.pair encN.tup)
theorem py_pR (r : List Nat) : (pR r).py = .tuple (r.map fun k : Nat => PyData.int k) := by
  simp only [pR, D.py, D.pys_map, List.map_map]
  rfl
theorem py_rD (p : Int × List Nat) : (rD p).py = .tuple [.int p.1, .tuple (p.2.map fun k : Nat => PyData.int k)] := by
  simp only [rD, D.py, D.pys, py_pR]
theorem alike_nats : ∀ a b : List Nat, a.length = b.length → alikeAll (a.map fun k : Nat => PyData.int k) (b.map fun k : Nat => PyData.int k) = true
  | [], [], _ => by simp [alikeAll]
  | [], _ :: _, h => by simp at h
  | _ :: _, [], h => by simp at h
  | x :: a, y :: b, h => by
    rw [List.map_cons, List.map_cons, alikeAll, alike, alike_nats a b (by simpa using h)]
    rfl
theorem alike_rows (R : List (Int × List Nat)) (n : Nat) (h : ∀ p ∈ R, p.2.length = n) : alikeB (D.pys (R.map rD)) = true := by
  unfold alikeB
  rw [D.pys_map, List.map_map, Bool.and_eq_true, List.all_eq_true, List.all_eq_true]
  refine ⟨fun x hx => List.all_eq_true.mpr fun y hy => ?_, fun x hx => ?_⟩
  · obtain ⟨p, hp, rfl⟩ := List.mem_map.mp hx
    obtain ⟨q, hq, rfl⟩ := List.mem_map.mp hy
    simp only [Function.comp, py_rD]
    simp only [alike, alikeAll, alike_nats p.2 q.2 (by rw [h p hp, h q hq]), Bool.and_true]
  · obtain ⟨p, hp, rfl⟩ := List.mem_map.mp hx
    simp only [Function.comp, py_rD]
    rfl
theorem lt_rows (p q : Int × List Nat) (h : p.1 < q.1) : dataLt (rD p).py (rD q).py = true ∧ dataLt (rD q).py (rD p).py = false := by
  have ne : (Sum.inl p.1 : Int ⊕ List Nat) ≠ .inl q.1 := fun e => by injection e with e; omega
  have key : ∀ z : Int × List Nat, ∃ l, keyToks (rD z).py = .inl 1 :: .inl z.1 :: l := fun z => by
    rw [py_rD]
    exact ⟨keyToksAll [.tuple (z.2.map fun k : Nat => PyData.int k)], by rw [keyToks, keyToksAll, keyToks]; rfl⟩
  obtain ⟨l, e1⟩ := key p
  obtain ⟨m, e2⟩ := key q
  unfold dataLt
  rw [e1, e2]
  constructor
  · rw [lex_self (O := itemOrd), lex_diff (O := itemOrd) ne]
    show decide (p.1 < q.1) = true
    exact decide_eq_true h
  · rw [lex_self (O := itemOrd), lex_diff (O := itemOrd) (Ne.symm ne)]
    show decide (q.1 < p.1) = false
    exact decide_eq_false (by omega)
theorem arg_le (bt : Nat → Nat → Bool) : ∀ k : Nat, argBest bt k ≤ k
  | 0 => Nat.le_refl 0
  | k + 1 => by
    rw [argBest]
    have := arg_le bt k
    split <;> omega
theorem arg_min (bt : Nat → Nat → Bool) (f : Nat → Int) (m : Nat) (h : ∀ i j, i ≤ m → j ≤ m → f i < f j → bt i j = true ∧ bt j i = false) : ∀ k : Nat, k ≤ m → ∀ i, i ≤ k → f (argBest bt k) ≤ f i
  | 0, _, i, hi => by
    have : i = 0 := by omega
    subst this
    exact Int.le_refl _
  | k + 1, hk, i, hi => by
    have ih := arg_min bt f m h k (by omega)
    have l := arg_le bt k
    rw [argBest]
    by_cases c : bt (k + 1) (argBest bt k) = true
    · rw [if_pos c]
      have q : ¬ f (argBest bt k) < f (k + 1) := fun z => by
        have := (h (argBest bt k) (k + 1) (by omega) hk z).2
        rw [this] at c; cases c
      by_cases e : i = k + 1
      · rw [e]; exact Int.le_refl _
      · have := ih i (by omega); omega
    · rw [if_neg c]
      by_cases e : i = k + 1
      · subst e
        exact Int.not_lt.mp fun z => c (h (k + 1) (argBest bt k) hk (by omega) z).1
      · exact ih i (by omega)
theorem min_rows (R : List (Int × List Nat)) (n : Nat) (h : ∀ p ∈ R, p.2.length = n) (hR : R ≠ []) : ∃ p ∈ R, minPD [.lst (R.map rD)] = some (rD p) ∧ ∀ q ∈ R, p.1 ≤ q.1 := by
  have hl : 0 < R.length := List.length_pos_iff.mpr hR
  have sh := shN_all (n := 2) (xs := R.map rD) fun x hx => by
    obtain ⟨p, _, rfl⟩ := List.mem_map.mp hx
    exact encRow.sh p
  have al := alike_rows R n h
  have lb : bestAt (D.pys (R.map rD)) < R.length := by
    unfold bestAt
    have := arg_le (fun i j => dataLt ((D.pys (R.map rD)).getD i .none) ((D.pys (R.map rD)).getD j .none)) ((D.pys (R.map rD)).length - 1)
    have e : (D.pys (R.map rD)).length = R.length := by rw [D.pys_map]; simp
    omega
  have g : R[bestAt (D.pys (R.map rD))]? = some R[bestAt (D.pys (R.map rD))] := List.getElem?_eq_getElem lb
  have ne : R.map rD ≠ [] := by simpa using hR
  refine ⟨_, List.getElem_mem lb, ?_, fun q hq => ?_⟩
  · show ((some (R.map rD)).bind fun xs => if xs ≠ [] ∧ alikeB (D.pys xs) = true ∧ PyData.canLayAll0 (D.pys xs) = true ∧ PyData.depthAll (D.pys xs) ≤ 50 then xs[bestAt (D.pys xs)]?.bind fun d => if d.imm = true then some d else none else none) = _
    rw [Option.bind_some, if_pos ⟨ne, al, sh.1, by have := sh.2; omega⟩, List.getElem?_map, g]
    exact if_pos (encRow.imm _)
  · obtain ⟨i, hi⟩ := List.mem_iff_getElem?.mp hq
    have li : i < R.length := (List.getElem?_eq_some_iff.mp hi).1
    have gd : ∀ j (hj : j < R.length), (D.pys (R.map rD)).getD j .none = (rD R[j]).py := fun j hj => by
      rw [D.pys_map, List.map_map, List.getD_eq_getElem?_getD, List.getElem?_map, List.getElem?_eq_getElem hj]
      rfl
    have A := arg_min (fun i j => dataLt ((D.pys (R.map rD)).getD i .none) ((D.pys (R.map rD)).getD j .none)) (fun j => if hj : j < R.length then (R[j]).1 else 0) (R.length - 1) (fun i j hi hj hlt => by
      have li : i < R.length := by omega
      have lj : j < R.length := by omega
      simp only [dif_pos li, dif_pos lj] at hlt
      have := lt_rows _ _ hlt
      rw [gd i li, gd j lj]
      exact this) (R.length - 1) (Nat.le_refl _) i (by omega)
    have e : (D.pys (R.map rD)).length = R.length := by rw [D.pys_map]; simp
    have eb : bestAt (D.pys (R.map rD)) = argBest (fun i j => dataLt ((D.pys (R.map rD)).getD i .none) ((D.pys (R.map rD)).getD j .none)) (R.length - 1) := by unfold bestAt; rw [e]
    rw [← eb] at A
    simp only [dif_pos lb, dif_pos li] at A
    have e2 : R[i] = q := by
      have := List.getElem?_eq_getElem li
      rw [hi] at this
      exact (Option.some.inj this).symm
    rw [e2] at A
    exact A
/-! ### rows that have a first -/
def rOD (p : Option Int × List Nat) : D := .tup [oI p.1, pR p.2]
def keep (l : List (Option Int × List Nat)) : List (Int × List Nat) := l.filterMap fun p => p.1.map fun i => (i, p.2)
theorem keep_eq : ∀ l : List (Option Int × List Nat), (l.filter fun p => p.1.isSome).map rOD = (keep l).map rD
  | [] => rfl
  | (none, r) :: l => by
    have := keep_eq l
    simpa [keep] using this
  | (some i, r) :: l => by
    have := keep_eq l
    simp [keep, rOD, oI, rD] at this ⊢
    exact this
theorem mem_keep {l : List (Option Int × List Nat)} {i : Int} {r : List Nat} : (i, r) ∈ keep l ↔ (some i, r) ∈ l := by
  unfold keep
  rw [List.mem_filterMap]
  constructor
  · rintro ⟨⟨o, r'⟩, h, e⟩
    cases o with
    | none => cases e
    | some j => cases e; exact h
  · intro h
    exact ⟨_, h, rfl⟩
theorem oN_oI (o : Option Nat) : oN o = oI (o.map fun n : Nat => (n : Int)) := by cases o <;> rfl
end K59
end
section
namespace K59
open PySem PySem.Spec L2 Dn
@[simp] theorem rD_imm (p : Int × List Nat) : (rD p).imm = true := encRow.imm p
@[simp] theorem rD_ty (p : Int × List Nat) : (rD p).ty = "tuple" := rfl
@[simp] theorem rD_len (p : Int × List Nat) : lenD [rD p] = some (.int 2) := rfl
@[simp] theorem rD_ix0 (p : Int × List Nat) : ixD2 (rD p) (.int 0) = some (.int p.1) := by simp [rD]
@[simp] theorem rD_ix1 (p : Int × List Nat) : ixD2 (rD p) (.int 1) = some (pR p.2) := by simp [rD]
@[simp] theorem oI_imm (o : Option Int) : (oI o).imm = true := encO.imm o
@[simp] theorem oN_imm (o : Option Nat) : (oN o).imm = true := encON.imm o
@[simp] theorem oI_shp (o : Option Int) : (oI o).shp = true := encO.shp o
@[simp] theorem oI_isN (o : Option Int) : (oI o).isN = o.isNone := isN_oI o
@[simp] theorem oN_isN (o : Option Nat) : (oN o).isN = o.isNone := isN_oN o
@[simp] theorem rOD_imm (p : Option Int × List Nat) : (rOD p).imm = true := by simp [rOD]
@[simp] theorem rOD_ix0 (p : Option Int × List Nat) : ixD2 (rOD p) (.int 0) = some (oI p.1) := by simp [rOD]
@[simp] theorem rD_isN (p : Int × List Nat) : (rD p).isN = false := rfl
@[simp] theorem pR_isN (p : List Nat) : (pR p).isN = false := rfl
def least : List Int → Option Int
  | [] => none
  | n :: r => some (minI n r)
theorem least_of {L : List Int} {m : Int} (h : m ∈ L) (h2 : ∀ q ∈ L, m ≤ q) : least L = some m := by
  cases L with
  | nil => cases h
  | cons n r =>
    obtain ⟨a, b, c⟩ := minI_is r n
    have d : minI n r ∈ n :: r := by
      rcases a with e | e
      · rw [e]; exact List.mem_cons_self ..
      · exact List.mem_cons_of_mem _ e
    have e1 := h2 _ d
    have e2 : minI n r ≤ m := by
      rcases List.mem_cons.mp h with e | e
      · rw [e]; exact b
      · exact c _ e
    show some (minI n r) = some m
    rw [Int.le_antisymm e2 e1]
theorem least_min {L : List Int} (h : L ≠ []) : ∃ m, least L = some m ∧ m ∈ L ∧ (∀ q ∈ L, m ≤ q) ∧ mmD minI [.lst (L.map D.int)] = some (.int m) := by
  cases L with
  | nil => exact absurd rfl h
  | cons n r =>
    obtain ⟨a, b, c⟩ := minI_is r n
    refine ⟨minI n r, rfl, ?_, fun q hq => ?_, ?_⟩
    · rcases a with e | e
      · rw [e]; exact List.mem_cons_self ..
      · exact List.mem_cons_of_mem _ e
    · rcases List.mem_cons.mp hq with e | e
      · rw [e]; exact b
      · exact c _ e
    · simp only [mmD, D.lst?, Option.bind_some, intsD_ints]
def bestRow (R : List (Int × List Nat)) : Option (Int × List Nat) := R[bestAt (D.pys (R.map rD))]?
def oR : Option (Int × List Nat) → D
  | none => .non
  | some p => rD p
theorem best_ne {R : List (Int × List Nat)} {n : Nat} (h : ∀ p ∈ R, p.2.length = n) (hR : R ≠ []) : ∃ p ∈ R, bestRow R = some p ∧ minPD [.lst (R.map rD)] = some (rD p) ∧ least (R.map (·.1)) = some p.1 := by
  obtain ⟨p, hp, e, q⟩ := min_rows R n h hR
  have e2 := e
  have i : ∀ (o : Option D), (o.bind fun d => if d.imm = true then some d else none) = some (rD p) → o = some (rD p) := fun o h => by
    cases o with
    | none => cases h
    | some d =>
      rw [Option.bind_some] at h
      split at h
      · exact h
      · cases h
  have e3 : (R.map rD)[bestAt (D.pys (R.map rD))]? = some (rD p) := by
    unfold minPD at e
    simp only [D.lst?, Option.bind_some] at e
    split at e
    · exact i _ e
    · cases e
  rw [List.getElem?_map] at e3
  cases hb : R[bestAt (D.pys (R.map rD))]? with
  | none => rw [hb] at e3; cases e3
  | some p' =>
    rw [hb] at e3
    have e4 : rD p' = rD p := Option.some.inj e3
    have e5 : p' = p := by
      have := encRow.eq p' p
      have z : (rD p').eqv (rD p) = true := by
        rw [e4]
        exact (encRow.eq p p).trans (decide_eq_true rfl)
      exact of_decide_eq_true ((encRow.eq p' p).symm.trans z)
    subst e5
    exact ⟨p', hp, hb, e2, least_of (List.mem_map_of_mem hp) fun x hx => by
      obtain ⟨y, hy, rfl⟩ := List.mem_map.mp hx
      exact q y hy⟩
/-! ### what each rank gives -/
def gv (c : Nat) (old : List Nat) (hs : List Heir) (r : List Nat) (i : Nat) : Option Nat := lk (upTo c old hs r 61).g i
theorem giv_ix (c : Nat) (old : List Nat) (hs : List Heir) (r : List Nat) {i : Nat} (h : i < hs.length) : (giv c old hs r)[i]? = some (gv c old hs r i) := by
  unfold giv
  rw [List.getElem?_map, List.getElem?_range h]
  rfl
def yrs (c : Nat) (old : List Nat) (hs : List Heir) (i : Nat) : List (Int × List Nat) := keep ((ranks hs.length).map fun r => ((gv c old hs r i).map fun n : Nat => (n : Int), r))
def fai (c : Nat) (old : List Nat) (hs : List Heir) : List (Int × List Nat) := keep ((ranks hs.length).map fun r => (lng (wts hs (giv c old hs r)), r))
theorem mem_yrs {c : Nat} {old : List Nat} {hs : List Heir} {i : Nat} {y : Int} {r : List Nat} : (y, r) ∈ yrs c old hs i ↔ r ∈ ranks hs.length ∧ (gv c old hs r i).map (fun n : Nat => (n : Int)) = some y := by
  unfold yrs
  rw [mem_keep, List.mem_map]
  constructor
  · rintro ⟨r', h, e⟩
    injection e with e1 e2
    subst e2
    exact ⟨h, e1⟩
  · rintro ⟨h, e⟩
    exact ⟨r, h, by rw [e]⟩
theorem mem_fai {c : Nat} {old : List Nat} {hs : List Heir} {y : Int} {r : List Nat} : (y, r) ∈ fai c old hs ↔ r ∈ ranks hs.length ∧ lng (wts hs (giv c old hs r)) = some y := by
  unfold fai
  rw [mem_keep, List.mem_map]
  constructor
  · rintro ⟨r', h, e⟩
    injection e with e1 e2
    subst e2
    exact ⟨h, e1⟩
  · rintro ⟨h, e⟩
    exact ⟨r, h, by rw [e]⟩
theorem yrs_len {c : Nat} {old : List Nat} {hs : List Heir} {i : Nat} : ∀ p ∈ yrs c old hs i, p.2.length = hs.length := fun p hp => (rows_lt _ _ (mem_yrs.mp hp).1).1
theorem fai_len {c : Nat} {old : List Nat} {hs : List Heir} : ∀ p ∈ fai c old hs, p.2.length = hs.length := fun p hp => (rows_lt _ _ (mem_fai.mp hp).1).1
theorem keep_small (l : List (Option Int × List Nat)) : (keep l).length ≤ l.length := List.length_filterMap_le _ _
theorem shp_none : (D.str "none").shp = true := by
  have q : PyData.strOk (Str.ofString "none") = true := by decide +kernel
  simp [D.shp, D.py, SeqAt.shaped, PyData.canLay0, PyData.depth, q]
theorem shp_rank : (D.str "rank").shp = true := by
  have q : PyData.strOk (Str.ofString "rank") = true := by decide +kernel
  simp [D.shp, D.py, SeqAt.shaped, PyData.canLay0, PyData.depth, q]
section
variable {c : Nat} {old : List Nat} {hs : List Heir} (t : Town c old hs)
include t
theorem yrs_small (i : Nat) : (yrs c old hs i).length ≤ 256 := by
  refine Nat.le_trans (keep_small _) ?_
  rw [List.length_map]
  exact rows_small t.hl _ t.hl
theorem fai_small : (fai c old hs).length ≤ 256 := by
  refine Nat.le_trans (keep_small _) ?_
  rw [List.length_map]
  exact rows_small t.hl _ t.hl
theorem F_years_h {i : Nat} (hi : i < hs.length) : F_years_of_all [.int c, pR old, hsD hs, .int i] [false, false, false, false] = some (.lst ((yrs c old hs i).map rD), [none, none, none, none]) := by
  have RK := F_ro_h t.hl
  have sm : (ranks hs.length).length ≤ 256 := rows_small t.hl _ t.hl
  have C1 : (eComp (iSeq (oE (eF F_ranks_of (osCons (oE (eCa lenD (osCons (oV 2) osNil))) osNil)))) [5] (gN (po [5]) 5) bYes (eTup (osCons (oE (eOp2 ixD2 (oE (eF F_given_by (osCons (oV 0) (osCons (oV 1) (osCons (oV 2) (osCons (oV 5) osNil)))))) (oV 3))) (osCons (oE (eV 5)) osNil)))) [some (.int c), some (pR old), some (hsD hs), some (.int i), none, none, none] = some (.lst (((ranks hs.length).map fun r => ((gv c old hs r i).map fun n : Nat => (n : Int), r)).map rOD), [some (.int c), some (pR old), some (hsD hs), some (.int i), none, none, none]) := by
    refine Wp.eq (wp_comp_seq (E0 := [some (.int c), some (pR old), some (hsD hs), some (.int i), none, none, none]) (tk := .own (rL (ranks hs.length))) (s := .own (rL (ranks hs.length))) (ranks hs.length) pR (fun _ => true) (fun r => rOD ((gv c old hs r i).map fun n : Nat => (n : Int), r)) (by simp [ioOf, ioSl, apart, putOuts, RK]) (by simp [scOf]) rfl rfl (by omega) (fun p _ => pR_imm p) (fun r hr => ?_) ?_)
    · have G := F_given_by_h t (rank_of_mem t.hl hr)
      have ix := gL_ix (giv c old hs r) i
      rw [giv_ix c old hs r hi] at ix
      refine ⟨_, by simp [wipeE, po]; rfl, ?_⟩
      simp [wipeE, bYes, ioOf, ioSl, apart, putOuts, G, ix, rOD, oN_oI]
    · simp [wipeE, backE, Function.comp_def]
  have C2 : ∀ R : List (Option Int × List Nat), R.length ≤ 256 → (eComp (iSeq (oV 4)) [6] (gN (po [6]) 6) (bE (eOp2 isNotND (oE (eOp2 ixD2 (oV 6) (oE (eK (.int 0))))) (oE (eK .non)))) (eV 6)) [some (.int c), some (pR old), some (hsD hs), some (.int i), some (.lst (R.map rOD)), none, none] = some (.lst ((keep R).map rD), [some (.int c), some (pR old), some (hsD hs), some (.int i), some (.lst (R.map rOD)), none, none]) := fun R hR => by
    refine Wp.eq (wp_comp_seq (tk := .slot 4) (s := .sl 4) R rOD (fun p => p.1.isSome) rOD rfl (by simp [scOf]) rfl rfl (by omega) (fun p _ => rOD_imm p) (fun p hp => ?_) ?_)
    · refine ⟨_, by simp [wipeE, po]; rfl, ?_⟩
      cases h : p.1 <;> simp [wipeE, h]
    · rw [keep_eq]
      simp [wipeE, backE]
  have Q := C2 ((ranks hs.length).map fun r => ((gv c old hs r i).map fun n : Nat => (n : Int), r)) (by rw [List.length_map]; omega)
  clear C2
  simp only [F_years_of_all, mkF, B_years_of_all]
  generalize ((ranks hs.length).map fun r => ((gv c old hs r i).map fun n : Nat => (n : Int), r)).map rOD = A at *
  generalize (eComp (iSeq (oE (eF F_ranks_of (osCons (oE (eCa lenD (osCons (oV 2) osNil))) osNil)))) [5] (gN (po [5]) 5) bYes (eTup (osCons (oE (eOp2 ixD2 (oE (eF F_given_by (osCons (oV 0) (osCons (oV 1) (osCons (oV 2) (osCons (oV 5) osNil)))))) (oV 3))) (osCons (oE (eV 5)) osNil)))) = X1 at C1 ⊢
  generalize (eComp (iSeq (oV 4)) [6] (gN (po [6]) 6) (bE (eOp2 isNotND (oE (eOp2 ixD2 (oV 6) (oE (eK (.int 0))))) (oE (eK .non)))) (eV 6)) = X2 at Q ⊢
  simp [outs, C1, Q]
  rfl
theorem F_best_first_h {i : Nat} (hi : i < hs.length) : F_best_first [.int c, pR old, hsD hs, .int i] [false, false, false, false] = some (oI (least ((yrs c old hs i).map (·.1))), [none, none, none, none]) := by
  have A := F_check_heir_h t hi
  have B := F_check_few_h t
  have Y := F_years_h t hi
  have L := yrs_len (c := c) (old := old) (hs := hs) (i := i)
  have sm := yrs_small t i
  generalize yrs c old hs i = R at *
  have S := encRow.lstShp R
  have E : (D.lst (R.map rD)).eqv (.lst []) = decide (R = []) := encRow.lstEq R []
  have S : (D.lst (R.map rD)).shp = true := S
  by_cases h : R = []
  · subst h
    simp [F_best_first, mkF, B_best_first, outs, ioOf, ioSl, apart, putOuts, A, B, Y, eqv_l0, least, oI]
  · obtain ⟨p, hp, _, m, l⟩ := best_ne L h
    simp [F_best_first, mkF, B_best_first, outs, ioOf, ioSl, apart, putOuts, A, B, Y, S, E, h, m, l, oI]
/-- the ranks by which one has a chair by a year -/
def fin (c : Nat) (old : List Nat) (hs : List Heir) (i y : Nat) : List (List Nat) := ((yrs c old hs i).filter fun p => decide (p.1 ≤ (y : Int))).map (·.2)
def rankD : List (List Nat) → D
  | [] => .non
  | r :: _ => pR r
def toldD : List (List Nat) → D
  | [] => .tup [.str "none"]
  | r :: _ => .tup [.str "rank", pR r]
theorem F_rank_by_h {i y : Nat} (hi : i < hs.length) : F_rank_by [.int c, pR old, hsD hs, .int i, .int y] [false, false, false, false, false] = some (rankD (fin c old hs i y), [none, none, none, none, none]) := by
  have Y := F_years_h t hi
  have sm := yrs_small t i
  have C : (eComp (iSeq (oE (eF F_years_of_all (osCons (oV 0) (osCons (oV 1) (osCons (oV 2) (osCons (oV 3) osNil))))))) [6, 7] (gTup 2 (gsCons (gN (po [6, 7]) 6) (gsCons (gN (po [6, 7]) 7) gsNil))) (bE (eOp2 leD (oV 6) (oV 4))) (eV 7)) [some (.int c), some (pR old), some (hsD hs), some (.int i), some (.int y), none, none, none] = some (rL (fin c old hs i y), [some (.int c), some (pR old), some (hsD hs), some (.int i), some (.int y), none, none, none]) := by
    refine Wp.eq (wp_comp_seq (E0 := [some (.int c), some (pR old), some (hsD hs), some (.int i), some (.int y), none, none, none]) (tk := .own (.lst ((yrs c old hs i).map rD))) (s := .own (.lst ((yrs c old hs i).map rD))) (yrs c old hs i) rD (fun p => decide (p.1 ≤ (y : Int))) (fun p => pR p.2) (by simp [ioOf, ioSl, apart, putOuts, Y]) (by simp [scOf]) rfl rfl (by omega) (fun p _ => rD_imm p) (fun p hp => ?_) ?_)
    · refine ⟨_, by simp [wipeE, po, rD]; rfl, ?_⟩
      by_cases q : p.1 ≤ (y : Int) <;> simp [wipeE, q]
    · simp [wipeE, backE, rL, fin, Function.comp_def]
  simp only [F_rank_by, mkF, B_rank_by]
  generalize (eComp (iSeq (oE (eF F_years_of_all (osCons (oV 0) (osCons (oV 1) (osCons (oV 2) (osCons (oV 3) osNil))))))) [6, 7] (gTup 2 (gsCons (gN (po [6, 7]) 6) (gsCons (gN (po [6, 7]) 7) gsNil))) (bE (eOp2 leD (oV 6) (oV 4))) (eV 7)) = X1 at C ⊢
  generalize fin c old hs i y = R at *
  have S : (rL R).shp = true := encN.tup.lstShp R
  have E : (rL R).eqv (.lst []) = decide (R = []) := encN.tup.lstEq R []
  cases R with
  | nil => simp [outs, C, S, E, rankD]
  | cons r R =>
    have ix : ixD2 (rL (r :: R)) (.int 0) = some (pR r) := by simp [rL]
    simp [outs, C, S, E, rankD, ix]
theorem F_rank_told_h {i y : Nat} (hi : i < hs.length) (hy : y ≤ 60) : F_rank_told [.int c, pR old, hsD hs, .int i, .int y] [false, false, false, false, false] = some (toldD (fin c old hs i y), [none, none, none, none, none]) := by
  have A := F_check_heir_year_h t hi hy
  have R := F_rank_by_h t (y := y) hi
  cases h : fin c old hs i y with
  | nil =>
    rw [h] at R
    simp [F_rank_told, mkF, B_rank_told, outs, ioOf, ioSl, apart, putOuts, A, R, rankD, toldD]
  | cons r R0 =>
    rw [h] at R
    simp [F_rank_told, mkF, B_rank_told, outs, ioOf, ioSl, apart, putOuts, A, R, rankD, toldD]
theorem F_shows_none_h {i y : Nat} (hi : i < hs.length) (hy : y ≤ 60) : F_shows_rank [.int c, pR old, hsD hs, .int i, .int y, .tup [.str "none"]] [false, false, false, false, false, false] = some (.bl (decide (fin c old hs i y = [])), [none, none, none, none, none, none]) := by
  have A := F_check_heir_year_h t hi hy
  have R := F_rank_by_h t (y := y) hi
  have z : (D.str "none").eqv (.str "none") = true := by rfl
  have h12 := encI.has 1 [1, 2]
  have sh12 : (D.tup [.int 1, .int 2]).shp = true := encI.tupShp [1, 2]
  simp at h12
  have e : (rankD (fin c old hs i y)).isN = decide (fin c old hs i y = []) := by cases fin c old hs i y <;> rfl
  simp [F_shows_rank, mkF, B_shows_rank, outs, ioOf, ioSl, apart, putOuts, A, R, isiB, h12, sh12, z, e, shp_none]
theorem F_shows_rank_h {i y : Nat} (hi : i < hs.length) (hy : y ≤ 60) {r : List Nat} (hr : Rank hs.length r) : F_shows_rank [.int c, pR old, hsD hs, .int i, .int y, .tup [.str "rank", pR r]] [false, false, false, false, false, false] = some (.bl (decide (∃ z, gv c old hs r i = some z ∧ z ≤ y)), [none, none, none, none, none, none]) := by
  have A := F_check_heir_year_h t hi hy
  have RK := F_is_rank_h hr t.hl
  have G := F_given_by_h t hr
  have ix := gL_ix (giv c old hs r) i
  rw [giv_ix c old hs r hi] at ix
  have z : (D.str "rank").eqv (.str "rank") = true := by rfl
  have h12 := encI.has 2 [1, 2]
  have sh12 : (D.tup [.int 1, .int 2]).shp = true := encI.tupShp [1, 2]
  simp at h12
  cases h : gv c old hs r i <;> simp [F_shows_rank, mkF, B_shows_rank, outs, ioOf, ioSl, apart, putOuts, A, RK, G, ix, isiB, h12, sh12, z, h, oN, shp_rank]
theorem F_fairest_of_h : F_fairest_of [.int c, pR old, hsD hs] [false, false, false] = some (oR (bestRow (fai c old hs)), [none, none, none]) := by
  have RK := F_ro_h t.hl
  have sm : (ranks hs.length).length ≤ 256 := rows_small t.hl _ t.hl
  have C1 : (eComp (iSeq (oE (eF F_ranks_of (osCons (oE (eCa lenD (osCons (oV 2) osNil))) osNil)))) [4] (gN (po [4]) 4) bYes (eTup (osCons (oE (eF F_longest_by (osCons (oV 0) (osCons (oV 1) (osCons (oV 2) (osCons (oV 4) osNil)))))) (osCons (oE (eV 4)) osNil)))) [some (.int c), some (pR old), some (hsD hs), none, none, none] = some (.lst (((ranks hs.length).map fun r => (lng (wts hs (giv c old hs r)), r)).map rOD), [some (.int c), some (pR old), some (hsD hs), none, none, none]) := by
    refine Wp.eq (wp_comp_seq (E0 := [some (.int c), some (pR old), some (hsD hs), none, none, none]) (tk := .own (rL (ranks hs.length))) (s := .own (rL (ranks hs.length))) (ranks hs.length) pR (fun _ => true) (fun r => rOD (lng (wts hs (giv c old hs r)), r)) (by simp [ioOf, ioSl, apart, putOuts, RK]) (by simp [scOf]) rfl rfl (by omega) (fun p _ => pR_imm p) (fun r hr => ?_) ?_)
    · have G := F_longest_by_h t (rank_of_mem t.hl hr)
      refine ⟨_, by simp [wipeE, po]; rfl, ?_⟩
      simp [wipeE, bYes, ioOf, ioSl, apart, putOuts, G, rOD]
    · simp [wipeE, backE, Function.comp_def]
  have C2 : ∀ R : List (Option Int × List Nat), R.length ≤ 256 → (eComp (iSeq (oV 3)) [5] (gN (po [5]) 5) (bE (eOp2 isNotND (oE (eOp2 ixD2 (oV 5) (oE (eK (.int 0))))) (oE (eK .non)))) (eV 5)) [some (.int c), some (pR old), some (hsD hs), some (.lst (R.map rOD)), none, none] = some (.lst ((keep R).map rD), [some (.int c), some (pR old), some (hsD hs), some (.lst (R.map rOD)), none, none]) := fun R hR => by
    refine Wp.eq (wp_comp_seq (tk := .slot 3) (s := .sl 3) R rOD (fun p => p.1.isSome) rOD rfl (by simp [scOf]) rfl rfl (by omega) (fun p _ => rOD_imm p) (fun p hp => ?_) ?_)
    · refine ⟨_, by simp [wipeE, po]; rfl, ?_⟩
      cases h : p.1 <;> simp [wipeE, h]
    · rw [keep_eq]
      simp [wipeE, backE]
  have Q := C2 ((ranks hs.length).map fun r => (lng (wts hs (giv c old hs r)), r)) (by rw [List.length_map]; omega)
  clear C2
  have L := fai_len (c := c) (old := old) (hs := hs)
  have fe : keep ((ranks hs.length).map fun r => (lng (wts hs (giv c old hs r)), r)) = fai c old hs := rfl
  rw [fe] at Q
  simp only [F_fairest_of, mkF, B_fairest_of]
  generalize ((ranks hs.length).map fun r => (lng (wts hs (giv c old hs r)), r)).map rOD = A at *
  generalize (eComp (iSeq (oE (eF F_ranks_of (osCons (oE (eCa lenD (osCons (oV 2) osNil))) osNil)))) [4] (gN (po [4]) 4) bYes (eTup (osCons (oE (eF F_longest_by (osCons (oV 0) (osCons (oV 1) (osCons (oV 2) (osCons (oV 4) osNil)))))) (osCons (oE (eV 4)) osNil)))) = X1 at C1 ⊢
  generalize (eComp (iSeq (oV 3)) [5] (gN (po [5]) 5) (bE (eOp2 isNotND (oE (eOp2 ixD2 (oV 5) (oE (eK (.int 0))))) (oE (eK .non)))) (eV 5)) = X2 at Q ⊢
  generalize fai c old hs = R at *
  have S : (D.lst (R.map rD)).shp = true := encRow.lstShp R
  have E : (D.lst (R.map rD)).eqv (.lst []) = decide (R = []) := encRow.lstEq R []
  by_cases h : R = []
  · subst h
    simp [outs, C1, Q, eqv_l0, bestRow, oR]
  · obtain ⟨p, hp, b, m, l⟩ := best_ne L h
    simp [outs, C1, Q, S, E, h, m, b, oR]
theorem F_fairest_h : F_fairest [.int c, pR old, hsD hs] [false, false, false] = some (oR (bestRow (fai c old hs)), [none, none, none]) := by
  have A := F_check_few_h t
  have F := F_fairest_of_h t
  simp [F_fairest, mkF, B_fairest, outs, ioOf, ioSl, apart, putOuts, A, F]
end
end K59
end
section
namespace K59
open PySem PySem.Spec L2 Dn
/-! ### what a run keeps -/
theorem lk_cons (p : Nat × Nat) (g : List (Nat × Nat)) (i : Nat) : lk (p :: g) i = if p.1 = i then some p.2 else lk g i := by
  unfold lk
  rw [List.find?_cons]
  by_cases h : p.1 = i <;> simp [h]
theorem lk_app (g : List (Nat × Nat)) (h y i : Nat) (e : (g.any fun p => decide (p.1 = h)) = false) : lk (g ++ [(h, y)]) i = if i = h then some y else lk g i := by
  induction g with
  | nil =>
    rw [List.nil_append, lk_cons]
    by_cases c : h = i
    · subst c; simp
    · have c2 : ¬ i = h := fun z => c z.symm
      simp [c, c2]
  | cons p g ih =>
    rw [List.any_cons, Bool.or_eq_false_iff] at e
    have ih := ih e.2
    have e1 : ¬ p.1 = h := by simpa using e.1
    rw [List.cons_append, lk_cons, lk_cons, ih]
    by_cases c : p.1 = i
    · subst c; simp [e1]
    · simp [c]
theorem lk_map (g : List (Nat × Nat)) (h y i : Nat) (e : (g.any fun p => decide (p.1 = h)) = true) : lk (g.map fun p => if p.1 = h then (p.1, y) else p) i = if i = h then some y else lk g i := by
  by_cases hi : i = h
  · subst hi
    rw [if_pos rfl]
    induction g with
    | nil => cases e
    | cons p g ih =>
      rw [List.map_cons, lk_cons]
      by_cases c : p.1 = i
      · simp [c]
      · rw [List.any_cons, Bool.or_eq_true] at e
        rcases e with e | e
        · exact absurd (of_decide_eq_true e) c
        · simp only [c, if_false]
          exact ih e
  · rw [if_neg hi]
    clear e
    induction g with
    | nil => rfl
    | cons p g ih =>
      rw [List.map_cons, lk_cons, lk_cons, ih]
      by_cases c : p.1 = h
      · have c2 : ¬ h = i := fun z => hi z.symm
        simp [c, c2]
      · simp [c]
theorem lk_pt (g : List (Nat × Nat)) (h y i : Nat) : lk (pt g h y) i = if i = h then some y else lk g i := by
  unfold pt
  split
  · rename_i e; exact lk_map g h y i e
  · rename_i e; exact lk_app g h y i (Bool.eq_false_iff.mpr e)
theorem lk_fold (hs : List Heir) (y : Nat) : ∀ (z : List (Nat × Nat)) (s : Sd) (i : Nat), lk (z.foldl (put1 hs y) s).g i = if i ∈ z.map (·.2) then some y else lk s.g i
  | [], s, i => by simp
  | p :: z, s, i => by
    rw [List.foldl_cons, lk_fold hs y z _ i]
    show (if _ then _ else lk (pt s.g p.2 y) i) = _
    rw [lk_pt, List.map_cons]
    by_cases c : i ∈ z.map (·.2)
    · rw [if_pos c, if_pos (List.mem_cons_of_mem _ c)]
    · rw [if_neg c]
      by_cases d : i = p.2
      · rw [if_pos d, if_pos (by rw [d]; exact List.mem_cons_self ..)]
      · rw [if_neg d, if_neg (by
          intro m
          rcases List.mem_cons.mp m with e | e
          · exact d e
          · exact c e)]
section
variable (c : Nat) (old : List Nat) (hs : List Heir) (r : List Nat)
abbrev prs (y : Nat) : List (Nat × Nat) := (fre c y (upTo c old hs r y).u).zip (rdy hs r (upTo c old hs r y).g y)
theorem lk_step (y i : Nat) : lk (upTo c old hs r (y + 1)).g i = if i ∈ (prs c old hs r y).map (·.2) then some y else lk (upTo c old hs r y).g i := by
  rw [upTo_s]
  exact lk_fold hs y _ _ i
theorem prs_snd {y i : Nat} (h : i ∈ (prs c old hs r y).map (·.2)) : i ∈ r ∧ lk (upTo c old hs r y).g i = none ∧ wt hs i ≤ y := by
  obtain ⟨p, hp, rfl⟩ := List.mem_map.mp h
  have := (List.of_mem_zip hp).2
  unfold rdy at this
  obtain ⟨a, b⟩ := List.mem_filter.mp this
  rw [Bool.and_eq_true] at b
  refine ⟨a, ?_, of_decide_eq_true b.2⟩
  have b1 := b.1
  cases h : lk (upTo c old hs r y).g p.2 with
  | none => rfl
  | some z => rw [h] at b1; cases b1
theorem lk_mono {y i z : Nat} (h : lk (upTo c old hs r y).g i = some z) : lk (upTo c old hs r (y + 1)).g i = some z := by
  rw [lk_step]
  by_cases m : i ∈ (prs c old hs r y).map (·.2)
  · have := (prs_snd c old hs r m).2.1
    rw [h] at this; cases this
  · rw [if_neg m]; exact h
theorem lk_monos {y i z : Nat} (h : lk (upTo c old hs r y).g i = some z) : ∀ k : Nat, lk (upTo c old hs r (y + k)).g i = some z
  | 0 => h
  | k + 1 => lk_mono c old hs r (lk_monos h k)
theorem lk_lt {i z : Nat} : ∀ y : Nat, lk (upTo c old hs r y).g i = some z → z < y ∧ wt hs i ≤ z ∧ i ∈ r ∧ lk (upTo c old hs r z).g i = none ∧ i ∈ (prs c old hs r z).map (·.2)
  | 0, h => by cases h
  | y + 1, h => by
    rw [lk_step] at h
    by_cases m : i ∈ (prs c old hs r y).map (·.2)
    · rw [if_pos m] at h
      cases h
      have q := prs_snd c old hs r m
      exact ⟨by omega, q.2.2, q.1, q.2.1, m⟩
    · rw [if_neg m] at h
      have q := lk_lt y h
      exact ⟨by omega, q.2⟩
/-- by a year, told from the end -/
theorem lk_by {y i z : Nat} (hy : y ≤ 61) : lk (upTo c old hs r y).g i = some z ↔ gv c old hs r i = some z ∧ z < y := by
  constructor
  · intro h
    have q := lk_lt c old hs r y h
    refine ⟨?_, q.1⟩
    have := lk_monos c old hs r h (61 - y)
    have e : y + (61 - y) = 61 := by omega
    rw [e] at this
    exact this
  · rintro ⟨h, l⟩
    have q := lk_lt c old hs r 61 h
    have s : lk (upTo c old hs r (z + 1)).g i = some z := by
      rw [lk_step, if_pos q.2.2.2.2]
    have := lk_monos c old hs r s (y - (z + 1))
    have e : z + 1 + (y - (z + 1)) = y := by omega
    rw [e] at this
    exact this
theorem gv_le {i z : Nat} (h : gv c old hs r i = some z) : wt hs i ≤ z ∧ z ≤ 60 := by
  have q := lk_lt c old hs r 61 h
  exact ⟨q.2.1, by omega⟩
end
/-! ### counting -/
theorem count_one {l : List Nat} (nd : l.Nodup) {a : Nat} (ha : a ∈ l) {p q : Nat → Bool} (hp : p a = false) (h : ∀ x, x ≠ a → q x = p x) : l.countP q = l.countP p + if q a = true then 1 else 0 := by
  induction l with
  | nil => cases ha
  | cons x l ih =>
    have nd2 := List.nodup_cons.mp nd
    rw [List.countP_cons, List.countP_cons]
    by_cases e : x = a
    · subst e
      have z : l.countP q = l.countP p := List.countP_congr fun y hy => by
        rw [h y fun e => nd2.1 (by rw [← e]; exact hy)]
      rw [z, hp]
      simp
    · have ha2 : a ∈ l := by
        rcases List.mem_cons.mp ha with z | z
        · exact absurd z.symm e
        · exact z
      rw [ih nd2.2 ha2, h x e]
      omega
def occ (c : Nat) (u : List Nat) (T : Nat) : Nat := (List.range c).countP fun j => decide (T < u[j]?.getD 0)
def hel (hs : List Heir) (g : List (Nat × Nat)) (T : Nat) : Nat := (List.range hs.length).countP fun e => (lk g e).any fun z => decide (T < z + lf hs e)
theorem occ_fold (c : Nat) (hs : List Heir) (y T : Nat) (hT : y ≤ T) : ∀ (z : List (Nat × Nat)) (s : Sd), (z.map (·.1)).Nodup → (z.map (·.2)).Nodup → (∀ p ∈ z, p.1 < c ∧ p.2 < hs.length ∧ s.u[p.1]?.getD 0 ≤ y ∧ lk s.g p.2 = none) → s.u.length = c → ∃ m, occ c (z.foldl (put1 hs y) s).u T = occ c s.u T + m ∧ hel hs (z.foldl (put1 hs y) s).g T = hel hs s.g T + m
  | [], s, _, _, _, _ => ⟨0, by simp, by simp⟩
  | p :: z, s, n1, n2, h, hl => by
    rw [List.map_cons, List.nodup_cons] at n1 n2
    obtain ⟨h1, h2, h3, h4⟩ := h p (List.mem_cons_self ..)
    have A : occ c (put1 hs y s p).u T = occ c s.u T + if T < y + lf hs p.2 then 1 else 0 := by
      have := count_one (List.nodup_range (n := c)) (a := p.1) (by simpa using h1) (p := fun j => decide (T < s.u[j]?.getD 0)) (q := fun j => decide (T < (s.u.set p.1 (y + lf hs p.2))[j]?.getD 0)) (decide_eq_false (by omega)) (fun x hx => by
        simp only [List.getElem?_set]
        rw [if_neg (Ne.symm hx)])
      simp only [List.getElem?_set, if_true, hl, h1, decide_eq_true_eq, Option.getD_some] at this
      unfold occ put1
      simp only [List.getElem?_set, hl, h1, if_true]
      exact this
    have B : hel hs (put1 hs y s p).g T = hel hs s.g T + if T < y + lf hs p.2 then 1 else 0 := by
      have := count_one (List.nodup_range (n := hs.length)) (a := p.2) (by simpa using h2) (p := fun e => (lk s.g e).any fun z => decide (T < z + lf hs e)) (q := fun e => (lk (pt s.g p.2 y) e).any fun z => decide (T < z + lf hs e)) (by simp [h4]) (fun x hx => by
        simp only [lk_pt]
        rw [if_neg hx])
      have e2 : (lk (pt s.g p.2 y) p.2).any (fun z => decide (T < z + lf hs p.2)) = decide (T < y + lf hs p.2) := by simp [lk_pt]
      rw [e2] at this
      simp only [decide_eq_true_eq] at this
      exact this
    obtain ⟨m, q1, q2⟩ := occ_fold c hs y T hT z (put1 hs y s p) n1.2 n2.2 (fun q hq => by
      obtain ⟨g1, g2, g3, g4⟩ := h q (List.mem_cons_of_mem _ hq)
      have d1 : q.1 ≠ p.1 := fun e => n1.1 (List.mem_map.mpr ⟨q, hq, e⟩)
      have d2 : q.2 ≠ p.2 := fun e => n2.1 (List.mem_map.mpr ⟨q, hq, e⟩)
      refine ⟨g1, g2, ?_, ?_⟩
      · simp only [put1, List.getElem?_set]
        rw [if_neg (Ne.symm d1)]
        exact g3
      · simp only [put1, lk_pt]
        rw [if_neg d2]
        exact g4) (by simp only [put1, List.length_set]; exact hl)
    refine ⟨(if T < y + lf hs p.2 then 1 else 0) + m, ?_, ?_⟩
    · rw [List.foldl_cons, q1, A]; omega
    · rw [List.foldl_cons, q2, B]; omega
theorem range_count (p : Nat → Bool) : ∀ l : List Nat, (List.range l.length).countP (fun j => p (l[j]?.getD 0)) = l.countP p
  | [] => rfl
  | a :: l => by
    have ih := range_count p l
    rw [List.length_cons, List.range_succ_eq_map, List.countP_cons, List.countP_map, List.countP_cons]
    simp only [Function.comp_def, List.getElem?_cons_succ, List.getElem?_cons_zero, Option.getD_some]
    rw [ih]
theorem zip_fst_nodup {α β : Type} : ∀ (l : List α) (m : List β), l.Nodup → ((l.zip m).map (·.1)).Nodup
  | [], _, _ => by simp
  | _ :: _, [], _ => by simp
  | a :: l, b :: m, h => by
    rw [List.nodup_cons] at h
    rw [List.zip_cons_cons, List.map_cons, List.nodup_cons]
    exact ⟨fun z => by
      obtain ⟨p, hp, e⟩ := List.mem_map.mp z
      have := (List.of_mem_zip hp).1
      exact h.1 (by have e : p.1 = a := e; rw [← e]; exact this), zip_fst_nodup l m h.2⟩
theorem zip_snd_nodup {α β : Type} : ∀ (l : List α) (m : List β), m.Nodup → ((l.zip m).map (·.2)).Nodup
  | [], _, _ => by simp
  | _ :: _, [], _ => by simp
  | a :: l, b :: m, h => by
    rw [List.nodup_cons] at h
    rw [List.zip_cons_cons, List.map_cons, List.nodup_cons]
    exact ⟨fun z => by
      obtain ⟨p, hp, e⟩ := List.mem_map.mp z
      have := (List.of_mem_zip hp).2
      exact h.1 (by have e : p.2 = b := e; rw [← e]; exact this), zip_snd_nodup l m h.2⟩
theorem occ_hel {c : Nat} {old : List Nat} {hs : List Heir} (t : Town c old hs) {r : List Nat} (hr : Rank hs.length r) : ∀ (y T : Nat), y ≤ T → occ c (upTo c old hs r y).u T = old.countP (fun o => decide (T < o)) + hel hs (upTo c old hs r y).g T
  | 0, T, _ => by
    have hl : (beg c old).u.length = c := by have := t.ol; simp [beg]; omega
    have := range_count (fun x => decide (T < x)) (beg c old).u
    rw [hl] at this
    show occ c (beg c old).u T = _ + hel hs [] T
    unfold occ
    rw [this]
    have z : hel hs [] T = 0 := by
      unfold hel
      rw [List.countP_eq_zero]
      intro a _
      simp [lk]
    rw [z]
    simp [beg, List.countP_append, List.countP_replicate]
  | y + 1, T, h => by
    have ih := occ_hel t hr y T (by omega)
    rw [upTo_s]
    unfold year1
    have hl := (upTo_len c old hs r t.ol y).1
    obtain ⟨m, q1, q2⟩ := occ_fold c hs y T (by omega) (prs c old hs r y) (upTo c old hs r y) (zip_fst_nodup _ _ (List.nodup_range.filter _)) (zip_snd_nodup _ _ (hr.nodup.filter _)) (fun p hp => by
      obtain ⟨a, b⟩ := List.of_mem_zip hp
      have b2 := prs_snd c old hs r (List.mem_map_of_mem (f := (·.2)) hp)
      unfold fre at a
      exact ⟨by simpa using (List.mem_filter.mp a).1, hr.lt b2.1, of_decide_eq_true (List.mem_filter.mp a).2, b2.2.1⟩) hl
    rw [q1, q2, ih]
    omega
theorem fre_ne {c : Nat} {y : Nat} {u : List Nat} : fre c y u ≠ [] ↔ occ c u y < c := by
  unfold fre occ
  have := List.length_eq_countP_add_countP (fun j => decide (u[j]?.getD 0 ≤ y)) (l := List.range c)
  rw [List.length_range] at this
  have e : (List.range c).countP (fun j => decide (y < u[j]?.getD 0)) = (List.range c).countP fun a => !(decide (u[a]?.getD 0 ≤ y)) := List.countP_congr fun a _ => by
    by_cases q : u[a]?.getD 0 ≤ y <;> simp [q] <;> omega
  have f : (List.range c).countP (fun j => decide (u[j]?.getD 0 ≤ y)) = ((List.range c).filter fun j => decide (u[j]?.getD 0 ≤ y)).length := List.countP_eq_length_filter
  rw [e]
  simp only [decide_eq_true_eq] at this ⊢
  constructor
  · intro h
    have := List.length_pos_iff.mpr h
    simp only [← decide_not] at *
    omega
  · intro h hn
    rw [hn] at f
    simp only [List.length_nil] at f
    simp only [← decide_not] at *
    omega
end K59
end
section
namespace K59
open PySem PySem.Spec L2 Dn
def oth (c : Nat) (old : List Nat) (hs : List Heir) (r : List Nat) (h y : Nat) : Nat := (List.range hs.length).countP fun e => decide (e ≠ h) && (gv c old hs r e).any fun z => decide (z < y) && decide (y < z + lf hs e)
def had (c : Nat) (old : List Nat) (hs : List Heir) (r : List Nat) (h y : Nat) : Nat := old.countP (fun o => decide (y < o)) + oth c old hs r h y
section
variable {c : Nat} {old : List Nat} {hs : List Heir} (t : Town c old hs) {r : List Nat} (hr : Rank hs.length r)
include t hr
theorem had_eq {h y : Nat} (hy : y ≤ 60) (hn : lk (upTo c old hs r y).g h = none) : had c old hs r h y = occ c (upTo c old hs r y).u y := by
  rw [occ_hel t hr y y (Nat.le_refl _)]
  unfold had
  congr 1
  unfold oth hel
  refine List.countP_congr fun e he => ?_
  by_cases q : e = h
  · subst q; simp [hn]
  · simp only [Bool.and_eq_true, decide_eq_true_eq, Option.any_eq_true]
    constructor
    · rintro ⟨_, z, hz, a, b⟩
      exact ⟨z, (lk_by c old hs r (by omega)).mpr ⟨hz, a⟩, b⟩
    · rintro ⟨z, hz, b⟩
      obtain ⟨a1, a2⟩ := (lk_by c old hs r (by omega)).mp hz
      exact ⟨q, z, a1, a2, b⟩
theorem step_h {h y : Nat} (hd : r.head? = some h) (hw : wt hs h ≤ y) (hn : lk (upTo c old hs r y).g h = none) : lk (upTo c old hs r (y + 1)).g h = if fre c y (upTo c old hs r y).u = [] then none else some y := by
  rw [lk_step]
  cases hf : fre c y (upTo c old hs r y).u with
  | nil => simp [prs, hf, hn]
  | cons f fs =>
    cases r with
    | nil => cases hd
    | cons a r' =>
      have : a = h := by simpa using hd
      subst this
      simp [prs, hf, rdy, hn, hw, List.filter_cons]
theorem last_none {h : Nat} (hd : r.head? = some h) (hg : gv c old hs r h = none) {y : Nat} (hw : wt hs h ≤ y) (hy : y ≤ 60) : c ≤ had c old hs r h y := by
  have n : ∀ k : Nat, k ≤ 61 → lk (upTo c old hs r k).g h = none := fun k hk => by
    cases e : lk (upTo c old hs r k).g h with
    | none => rfl
    | some z =>
      have := ((lk_by c old hs r hk).mp e).1
      rw [hg] at this; cases this
  have s := step_h t hr hd hw (n y (by omega))
  rw [n (y + 1) (by omega)] at s
  rw [had_eq t hr hy (n y (by omega))]
  by_cases q : fre c y (upTo c old hs r y).u = []
  · have := (not_congr (fre_ne (c := c) (y := y) (u := (upTo c old hs r y).u))).mp (fun z => z q)
    omega
  · rw [if_neg q] at s; cases s
theorem last_some {h z : Nat} (hd : r.head? = some h) (hg : gv c old hs r h = some z) : had c old hs r h z < c ∧ ∀ y, wt hs h ≤ y → y < z → c ≤ had c old hs r h y := by
  have q := lk_lt c old hs r 61 hg
  have b := gv_le c old hs r hg
  constructor
  · rw [had_eq t hr b.2 q.2.2.2.1]
    refine fre_ne.mp fun e => ?_
    have m := q.2.2.2.2
    simp [prs, e] at m
  · intro y hw hy
    have n : ∀ k : Nat, k ≤ z → lk (upTo c old hs r k).g h = none := fun k hk => by
      cases e : lk (upTo c old hs r k).g h with
      | none => rfl
      | some w =>
        have := (lk_by c old hs r (by omega)).mp e
        rw [hg] at this
        have e2 := Option.some.inj this.1
        omega
    have s := step_h t hr hd hw (n y (by omega))
    rw [n (y + 1) (by omega)] at s
    rw [had_eq t hr (by omega) (n y (by omega))]
    by_cases q : fre c y (upTo c old hs r y).u = []
    · have := (not_congr (fre_ne (c := c) (y := y) (u := (upTo c old hs r y).u))).mp (fun z => z q)
      omega
    · rw [if_neg q] at s; cases s
end
/-- the years from its own on in which a chair is free -/
def frs (c : Nat) (old : List Nat) (hs : List Heir) (r : List Nat) (h : Nat) : List Nat := ((List.range (61 - wt hs h)).map fun j => wt hs h + j).filter fun y => decide (had c old hs r h y < c)
theorem head_filter {p : Nat → Bool} {b z n : Nat} (hz : b ≤ z ∧ z < b + n) (hp : p z = true) (hl : ∀ y, b ≤ y → y < z → p y = false) : (((List.range n).map fun j => b + j).filter p).head? = some z := by
  rw [List.head?_filter]
  have e : ((List.range n).map fun j => b + j).find? p = some z := by
    rw [List.find?_eq_some_iff_getElem]
    refine ⟨hp, z - b, by simp; omega, by simp; omega, fun j hj => ?_⟩
    simp only [List.getElem_map, List.getElem_range, Bool.not_eq_true']
    rw [hl (b + j) (by omega) (by omega)]
  exact e
theorem frs_ok {c : Nat} {old : List Nat} {hs : List Heir} (t : Town c old hs) {r : List Nat} (hr : Rank hs.length r) {h : Nat} (hd : r.head? = some h) : (frs c old hs r h).head? = gv c old hs r h := by
  cases hg : gv c old hs r h with
  | none =>
    have : frs c old hs r h = [] := by
      unfold frs
      rw [List.filter_eq_nil_iff]
      intro y hy
      obtain ⟨j, hj, rfl⟩ := List.mem_map.mp hy
      have hj : j < 61 - wt hs h := by simpa using hj
      have := last_none t hr hd hg (y := wt hs h + j) (by omega) (by omega)
      simp only [decide_eq_true_eq]
      omega
    rw [this]
    rfl
  | some z =>
    obtain ⟨a, b⟩ := last_some t hr hd hg
    have q := gv_le c old hs r hg
    exact head_filter (by omega) (decide_eq_true a) fun y h1 h2 => decide_eq_false (by have := b y h1 h2; omega)
/-! ### the waits of a rank -/
theorem wts_mem {c : Nat} {old : List Nat} {hs : List Heir} {r : List Nat} {w : Int} (h : some w ∈ wts hs (giv c old hs r)) : 0 ≤ w ∧ w ≤ 60 := by
  unfold wts at h
  obtain ⟨⟨a, o⟩, hp, e⟩ := List.mem_map.mp h
  obtain ⟨i, hi⟩ := List.mem_iff_getElem?.mp hp
  rw [List.getElem?_zip_eq_some] at hi
  obtain ⟨h1, h2⟩ := hi
  have il : i < hs.length := (List.getElem?_eq_some_iff.mp h1).1
  rw [giv_ix c old hs r il] at h2
  cases o with
  | none => cases e
  | some y =>
    have h2 := Option.some.inj h2
    have q := gv_le c old hs r h2
    have w := wt_of h1
    simp only at e
    injection e with e
    simp only at w e
    omega
theorem lng_ge {c : Nat} {old : List Nat} {hs : List Heir} {r : List Nat} {w : Int} (h : lng (wts hs (giv c old hs r)) = some w) : 0 ≤ w ∧ w ≤ 60 := by
  unfold lng at h
  split at h
  · cases h
  · rename_i q
    rw [not_or] at q
    injection h with h
    have e := all_some q.2
    refine wts_mem (c := c) (old := old) (hs := hs) (r := r) ?_
    rw [e]
    refine List.mem_map.mpr ⟨w, ?_, rfl⟩
    cases hn : (wts hs (giv c old hs r)).filterMap id with
    | nil => rw [hn] at e; exact absurd e q.1
    | cons n l =>
      rw [hn] at h
      have := (maxI_is l n).1
      have h : maxI n l = w := h
      rw [h] at this
      rcases this with g | g
      · rw [g]; exact List.mem_cons_self ..
      · exact List.mem_cons_of_mem _ g
theorem fai_ge {c : Nat} {old : List Nat} {hs : List Heir} {p : Int × List Nat} (h : p ∈ fai c old hs) : 0 ≤ p.1 ∧ p.1 ≤ 60 := lng_ge (mem_fai.mp h).2
/-! ### shows_fairest -/
section
variable {c : Nat} {old : List Nat} {hs : List Heir} (t : Town c old hs)
include t
theorem F_fair_non : F_shows_fairest [.int c, pR old, hsD hs, .non] [false, false, false, false] = some (.bl (bestRow (fai c old hs)).isNone, [none, none, none, none]) := by
  have A := F_check_few_h t
  have F := F_fairest_of_h t
  cases hb : bestRow (fai c old hs) with
  | none =>
    rw [hb] at F
    simp [F_shows_fairest, mkF, B_shows_fairest, outs, ioOf, ioSl, apart, putOuts, A, F, oR]
  | some p =>
    rw [hb] at F
    simp [F_shows_fairest, mkF, B_shows_fairest, outs, ioOf, ioSl, apart, putOuts, A, F, oR]
theorem F_fair_row {v : Int} {r : List Nat} (hr : Rank hs.length r) : F_shows_fairest [.int c, pR old, hsD hs, rD (v, r)] [false, false, false, false] = some (.bl (match bestRow (fai c old hs) with
    | none => false
    | some p => decide (0 ≤ v ∧ v ≤ 100) && decide (v = p.1) && decide (lng (wts hs (giv c old hs r)) = some p.1)), [none, none, none, none]) := by
  have A := F_check_few_h t
  have F := F_fairest_of_h t
  have RK := F_is_rank_h hr t.hl
  have L := F_longest_by_h t hr
  have E : ∀ w : Int, (oI (lng (wts hs (giv c old hs r)))).eqv (.int w) = decide (lng (wts hs (giv c old hs r)) = some w) := fun w => encO.eq (lng (wts hs (giv c old hs r))) (some w)
  generalize lng (wts hs (giv c old hs r)) = o at *
  cases hb : bestRow (fai c old hs) with
  | none =>
    rw [hb] at F
    simp [F_shows_fairest, mkF, B_shows_fairest, outs, ioOf, ioSl, apart, putOuts, A, F, oR]
  | some p =>
    rw [hb] at F
    by_cases q : 0 ≤ v ∧ v ≤ 100
    · by_cases q2 : v = p.1
      · subst q2
        simp [F_shows_fairest, mkF, B_shows_fairest, outs, ioOf, ioSl, apart, putOuts, A, F, oR, RK, L, isiB, q.1, q.2, E]
      · simp [-Bool.decide_and, F_shows_fairest, mkF, B_shows_fairest, outs, ioOf, ioSl, apart, putOuts, A, F, oR, RK, L, isiB, q, q2]
    · simp [-Bool.decide_and, F_shows_fairest, mkF, B_shows_fairest, outs, ioOf, ioSl, apart, putOuts, A, F, oR, RK, L, isiB, q]
end
end K59
end
section
namespace K59
open PySem PySem.Spec L2 Dn
/-! ### draws, in place -/
section
variable {n : Nat} {pot : D} {W : Dn.Env}
theorem of_ev {us : List Nat} {lx : EX} (hp : PotOk n pot) (hn : n < 1000000000) (h0 : 0 < us.length) (hl : us.length ≤ 1000) (hx : ∀ p, lx (some p :: W) = some (.lst (us.map fun k : Nat => D.int k), some p :: W)) : ∃ (u : Nat) (pot' : D), u ∈ us ∧ PotOk (n + 1) pot' ∧ eF F__law_of (osCons (oV 0) (osCons (oE lx) osNil)) (some pot :: W) = some (.int u, some pot' :: W) := by
  obtain ⟨i, x, d', hi, hd, e⟩ := of_ok false hp hn (xs := us.map fun k : Nat => D.int k) (by simpa using h0) (by simpa using hl) (fun x hx => by
    obtain ⟨k, _, rfl⟩ := List.mem_map.mp hx
    rfl)
  rw [List.getElem?_map] at hi
  obtain ⟨u, hu, rfl⟩ := Option.map_eq_some_iff.mp hi
  refine ⟨u, d', List.mem_of_getElem? hu, hd, ?_⟩
  have im := hp.imm
  simp [hx, ioOf, ioSl, apart, putOuts, im, e]
theorem tk_ev {u : Nat} {pot' : D} {ux : EX} (hp : PotOk n pot') (hn : n < 1000000000) (hu : 0 < u) (hu2 : u ≤ 1000000) (hx : ux (some pot :: W) = some (.int u, some pot' :: W)) : ∃ (k : Nat) (pot'' : D), k < u ∧ PotOk (n + 1) pot'' ∧ eF F__law_take (osCons (oV 0) (osCons (oE ux) osNil)) (some pot :: W) = some (.int k, some pot'' :: W) := by
  obtain ⟨k, d', hk, hd, e⟩ := take_ok hp hn (u := u) (by omega) (by omega)
  refine ⟨k, d', by omega, hd, ?_⟩
  have im := hp.imm
  simp [hx, ioOf, ioSl, apart, putOuts, im, e]
theorem tkof_ev {us : List Nat} {lx : EX} (hp : PotOk n pot) (hn : n < 900000000) (h0 : 0 < us.length) (hl : us.length ≤ 1000) (hu : ∀ u ∈ us, 0 < u ∧ u ≤ 1000) (hx : ∀ p, lx (some p :: W) = some (.lst (us.map fun k : Nat => D.int k), some p :: W)) (m : Nat) (hm : ∀ u ∈ us, u ≤ m) : ∃ (k : Nat) (pot' : D), k < m ∧ PotOk (n + 2) pot' ∧ eF F__law_take (osCons (oV 0) (osCons (oE (eF F__law_of (osCons (oV 0) (osCons (oE lx) osNil)))) osNil)) (some pot :: W) = some (.int k, some pot' :: W) := by
  obtain ⟨u, p1, hm1, hp1, e1⟩ := of_ev hp (by omega) h0 hl hx
  obtain ⟨k, p2, hk, hp2, e2⟩ := tk_ev (pot := pot) (W := W) hp1 (by omega) (hu u hm1).1 (by have := (hu u hm1).2; omega) e1
  exact ⟨k, p2, by have := hm u hm1; omega, hp2, e2⟩
end
abbrev N25 : Dn.Env := [none, none, none, none, none, none, none, none, none, none, none, none, none, none, none, none, none, none, none, none, none, none, none, none, none]
abbrev N24 : Dn.Env := [none, none, none, none, none, none, none, none, none, none, none, none, none, none, none, none, none, none, none, none, none, none, none, none]
abbrev N22 : Dn.Env := [none, none, none, none, none, none, none, none, none, none, none, none, none, none, none, none, none, none, none, none, none, none]
theorem old_comp {n : Nat} {pot : D} (hp : PotOk n pot) (hn : n < 800000000) : ∃ (ns : List Nat) (pot' : D), ns.length ≤ 3 ∧ (∀ k ∈ ns, k ≤ 60) ∧ PotOk (n + 10) pot' ∧ (eComp (iRange 1 (osCons (oE (eF F__law_take (osCons (oV 0) (osCons (oE (eK (.int 4))) osNil)))) osNil)) [4] (gN (po [4]) 4) bYes (eCa intOfD (osCons (oE (eF F__law_take (osCons (oV 0) (osCons (oE (eF F__law_of (osCons (oV 0) (osCons (oE (eLst (osCons (oE (eK (.int 3))) (osCons (oE (eK (.int 12))) (osCons (oE (eK (.int 61))) osNil))))) osNil)))) osNil)))) osNil))) (some pot :: N25) = some (.lst (ns.map fun k : Nat => D.int k), some pot' :: N25) := by
  obtain ⟨m, p1, hm, hp1, e1⟩ := tk_ev (pot := pot) (pot' := pot) (W := N25) (u := 4) (ux := eK (.int 4)) hp (by omega) (by decide) (by decide) rfl
  obtain ⟨ys, E', h1, pot', ns, q1, q2, q3, q4, q5⟩ := eComp_inv (own := [4]) (τ := (gN (po [4]) 4)) (t := bYes) (x := (eCa intOfD (osCons (oE (eF F__law_take (osCons (oV 0) (osCons (oE (eF F__law_of (osCons (oV 0) (osCons (oE (eLst (osCons (oE (eK (.int 3))) (osCons (oE (eK (.int 12))) (osCons (oE (eK (.int 61))) osNil))))) osNil)))) osNil)))) osNil))) (iRange1_ev (r := (osCons (oE (eF F__law_take (osCons (oV 0) (osCons (oE (eK (.int 4))) osNil)))) osNil)) (E := some pot :: N25) (E0 := some p1 :: N25) (tk := .own (.int m)) (n := (m : Nat)) (by simp only [ev_osCons, ev_oE, e1]; rfl) rfl (fits_of (by omega) (by omega))) (by simp [plRng]; omega)
    (fun j acc E => ∃ pot ns, PotOk (n + 1 + 2 * j) pot ∧ acc = ns.map (fun k : Nat => D.int k) ∧ (∀ k ∈ ns, k ≤ 60) ∧ ns.length = j ∧ E = some pot :: N25) ⟨p1, [], hp1, rfl, by simp, rfl, rfl⟩ (fun j acc E hj h => by
      obtain ⟨pot, ns, q1, q2, q3, q4, rfl⟩ := h
      have hj : j < m := by simpa [plRng] using hj
      obtain ⟨k, p2, hk, hp2, e2⟩ := tkof_ev (W := [none, none, none, some (.int j), none, none, none, none, none, none, none, none, none, none, none, none, none, none, none, none, none, none, none, none, none]) (us := [3, 12, 61]) (lx := (eLst (osCons (oE (eK (.int 3))) (osCons (oE (eK (.int 12))) (osCons (oE (eK (.int 61))) osNil))))) q1 (by omega) (by decide) (by decide) (by decide) (fun p => by simp) 61 (by decide)
      refine ⟨.int j, [some pot, none, none, none, some (.int j), none, none, none, none, none, none, none, none, none, none, none, none, none, none, none, none, none, none, none, none, none], true, _, by simp [plRng], by simp [po], rfl, .inr ⟨rfl, .int k, some p2 :: [none, none, none, some (.int j), none, none, none, none, none, none, none, none, none, none, none, none, none, none, none, none, none, none, none, none, none], ?_, p2, ns ++ [k], ?_, ?_, ?_, ?_, ?_⟩⟩
      · simp only [ev_eCa, ev_osCons, ev_oE, e2]
        simp
      · exact hp2.mono (by omega)
      · simp [q2]
      · intro x hx
        rcases List.mem_append.mp hx with z | z
        · exact q3 x z
        · rw [List.mem_singleton.mp z]; omega
      · simp [q4]
      · simp [wipeE]) (fun acc E h => by simp [plRng])
  have hl : ns.length = m := by simpa [plRng] using q4
  subst q5
  refine ⟨ns, pot', by omega, q3, q1.mono (by simp [plRng]; omega), ?_⟩
  rw [h1, q2]
  simp [backE]
end K59
end
section
namespace K59
open PySem PySem.Spec L2 Dn
theorem srt_nats (ns : List Nat) : ∃ old : List Nat, (srt (nI ns)).map D.int = old.map (fun k : Nat => D.int k) ∧ old.length = ns.length ∧ (∀ k ∈ old, k ∈ ns) ∧ old.Pairwise (· ≤ ·) := by
  have P := srt_perm (nI ns)
  have nn : ∀ x ∈ srt (nI ns), ((x.toNat : Nat) : Int) = x := fun x hx => by
    have := P.mem_iff.mp hx
    obtain ⟨k, _, rfl⟩ := List.mem_map.mp this
    rfl
  refine ⟨(srt (nI ns)).map Int.toNat, ?_, ?_, fun k hk => ?_, ?_⟩
  · rw [List.map_map]
    refine List.map_congr_left fun x hx => ?_
    simp only [Function.comp, nn x hx]
  · rw [List.length_map, P.length_eq, nI_len]
  · obtain ⟨x, hx, rfl⟩ := List.mem_map.mp hk
    have := P.mem_iff.mp hx
    obtain ⟨k', hk', rfl⟩ := List.mem_map.mp this
    exact hk'
  · rw [List.pairwise_map]
    exact (srt_le (nI ns)).imp fun {a b} h => by omega
theorem draw_old {n : Nat} {pot : D} (hp : PotOk n pot) (hn : n < 800000000) : ∃ (old : List Nat) (pot' : D), old.length ≤ 3 ∧ (∀ k ∈ old, k ≤ 60) ∧ old.Pairwise (· ≤ ·) ∧ PotOk (n + 10) pot' ∧ (sAsg (eCa tupOfD (osCons (oE (eCa sortD2 (osCons (oE (eComp (iRange 1 (osCons (oE (eF F__law_take (osCons (oV 0) (osCons (oE (eK (.int 4))) osNil)))) osNil)) [4] (gN (po [4]) 4) bYes (eCa intOfD (osCons (oE (eF F__law_take (osCons (oV 0) (osCons (oE (eF F__law_of (osCons (oV 0) (osCons (oE (eLst (osCons (oE (eK (.int 3))) (osCons (oE (eK (.int 12))) (osCons (oE (eK (.int 61))) osNil))))) osNil)))) osNil)))) osNil)))) osNil))) osNil)) (gN (pinOf [true]) 1)) (some pot :: N25) = some (.nx, some pot' :: some (pR old) :: N24) := by
  obtain ⟨ns, pot', h1, h2, h3, e⟩ := old_comp hp hn
  obtain ⟨old, o1, o2, o3, o4⟩ := srt_nats ns
  refine ⟨old, pot', by omega, fun k hk => h2 k (o3 k hk), o4, h3, ?_⟩
  have S : sortD2 [.lst (ns.map fun k : Nat => D.int k)] = some (.lst (old.map fun k : Nat => D.int k)) := by
    rw [← nI_map, op_sort2_l, o1]
  have im := encN.imms old
  generalize (eComp (iRange 1 (osCons (oE (eF F__law_take (osCons (oV 0) (osCons (oE (eK (.int 4))) osNil)))) osNil)) [4] (gN (po [4]) 4) bYes (eCa intOfD (osCons (oE (eF F__law_take (osCons (oV 0) (osCons (oE (eF F__law_of (osCons (oV 0) (osCons (oE (eLst (osCons (oE (eK (.int 3))) (osCons (oE (eK (.int 12))) (osCons (oE (eK (.int 61))) osNil))))) osNil)))) osNil)))) osNil))) = X at e ⊢
  simp [e, S, im, pR]
theorem draw_chairs {n : Nat} {pot : D} (hp : PotOk n pot) (hn : n < 800000000) {old : List Nat} (ho : old.length ≤ 3) : ∃ (c : Nat) (pot' : D), 1 ≤ c ∧ c ≤ 6 ∧ old.length ≤ c ∧ PotOk (n + 2) pot' ∧ (sAsg (eTup (osCons (oE (eCa intOfD (osCons (oE (eOp2 addD (oE (eCa max2D (osCons (oE (eK (.int 1))) (osCons (oE (eCa lenD (osCons (oV 1) osNil))) osNil)))) (oE (eF F__law_take (osCons (oV 0) (osCons (oE (eF F__law_of (osCons (oV 0) (osCons (oE (eLst (osCons (oE (eK (.int 1))) (osCons (oE (eK (.int 2))) (osCons (oE (eK (.int 3))) osNil))))) osNil)))) osNil)))))) osNil))) (osCons (oE (eLst osNil)) osNil))) (gTup 2 (gsCons (gN (pinOf [true]) 2) (gsCons (gN (pinOf [true]) 3) gsNil)))) (some pot :: some (pR old) :: N24) = some (.nx, some pot' :: some (pR old) :: some (.int c) :: some (.lst []) :: N22) := by
  obtain ⟨k, p2, hk, hp2, e2⟩ := tkof_ev (W := some (pR old) :: N24) (us := [1, 2, 3]) (lx := (eLst (osCons (oE (eK (.int 1))) (osCons (oE (eK (.int 2))) (osCons (oE (eK (.int 3))) osNil))))) hp (by omega) (by decide) (by decide) (by decide) (fun p => by simp) 3 (by decide)
  generalize (eF F__law_take (osCons (oV 0) (osCons (oE (eF F__law_of (osCons (oV 0) (osCons (oE (eLst (osCons (oE (eK (.int 1))) (osCons (oE (eK (.int 2))) (osCons (oE (eK (.int 3))) osNil))))) osNil)))) osNil))) = X at e2 ⊢
  refine ⟨(if 1 < old.length then old.length else 1) + k, p2, by split <;> omega, by split <;> omega, by split <;> omega, hp2, ?_⟩
  by_cases q : 1 < old.length
  · have q2 : (1 : Int) < old.length := by omega
    simp [e2, q, q2]
  · have q2 : ¬ (1 : Int) < old.length := by omega
    simp [e2, q, q2]
def HeirOk (h : Heir) : Prop := h.1 ≤ 40 ∧ h.2.1 ≤ 10 ∧ 1 ≤ h.2.2 ∧ h.2.2 ≤ 40
section
variable (pot : D) (old : List Nat) (c : Nat) (hs : D) (v4 v16 : Option D)
abbrev dE : Dn.Env := [some pot, some (pR old), some (.int c), some hs, v4, none, none, none, none, none, none, none, none, none, none, none, v16, none, none, none, none, none, none, none, none, none]
end
theorem draw_one {n : Nat} {pot : D} (hp : PotOk n pot) (hn : n < 800000000) (old : List Nat) (c : Nat) (hs : D) (v4 v16 : Option D) : ∃ (h : Heir) (pot' : D), HeirOk h ∧ PotOk (n + 6) pot' ∧ (sAsg (eTup (osCons (oE (eCa intOfD (osCons (oE (eF F__law_take (osCons (oV 0) (osCons (oE (eF F__law_of (osCons (oV 0) (osCons (oE (eLst (osCons (oE (eK (.int 2))) (osCons (oE (eK (.int 6))) (osCons (oE (eK (.int 41))) osNil))))) osNil)))) osNil)))) osNil))) (osCons (oE (eCa intOfD (osCons (oE (eF F__law_take (osCons (oV 0) (osCons (oE (eF F__law_of (osCons (oV 0) (osCons (oE (eLst (osCons (oE (eK (.int 1))) (osCons (oE (eK (.int 4))) (osCons (oE (eK (.int 11))) osNil))))) osNil)))) osNil)))) osNil))) (osCons (oE (eCa intOfD (osCons (oE (eOp2 addD (oE (eK (.int 1))) (oE (eF F__law_take (osCons (oV 0) (osCons (oE (eF F__law_of (osCons (oV 0) (osCons (oE (eLst (osCons (oE (eK (.int 2))) (osCons (oE (eK (.int 6))) (osCons (oE (eK (.int 40))) osNil))))) osNil)))) osNil)))))) osNil))) osNil)))) (gN (pu sl0 (pinOf [true])) 16)) (dE pot old c hs v4 v16) = some (.nx, dE pot' old c hs v4 (some (hD h))) := by
  obtain ⟨k1, p1, hk1, hp1, e1⟩ := tkof_ev (W := [some (pR old), some (.int c), some hs, v4, none, none, none, none, none, none, none, none, none, none, none, v16, none, none, none, none, none, none, none, none, none]) (us := [2, 6, 41]) (lx := (eLst (osCons (oE (eK (.int 2))) (osCons (oE (eK (.int 6))) (osCons (oE (eK (.int 41))) osNil))))) hp (by omega) (by decide) (by decide) (by decide) (fun p => by simp) 41 (by decide)
  obtain ⟨k2, p2, hk2, hp2, e2⟩ := tkof_ev (W := [some (pR old), some (.int c), some hs, v4, none, none, none, none, none, none, none, none, none, none, none, v16, none, none, none, none, none, none, none, none, none]) (us := [1, 4, 11]) (lx := (eLst (osCons (oE (eK (.int 1))) (osCons (oE (eK (.int 4))) (osCons (oE (eK (.int 11))) osNil))))) hp1 (by omega) (by decide) (by decide) (by decide) (fun p => by simp) 11 (by decide)
  obtain ⟨k3, p3, hk3, hp3, e3⟩ := tkof_ev (W := [some (pR old), some (.int c), some hs, v4, none, none, none, none, none, none, none, none, none, none, none, v16, none, none, none, none, none, none, none, none, none]) (us := [2, 6, 40]) (lx := (eLst (osCons (oE (eK (.int 2))) (osCons (oE (eK (.int 6))) (osCons (oE (eK (.int 40))) osNil))))) hp2 (by omega) (by decide) (by decide) (by decide) (fun p => by simp) 40 (by decide)
  generalize (eF F__law_take (osCons (oV 0) (osCons (oE (eF F__law_of (osCons (oV 0) (osCons (oE (eLst (osCons (oE (eK (.int 2))) (osCons (oE (eK (.int 6))) (osCons (oE (eK (.int 41))) osNil))))) osNil)))) osNil))) = X1 at e1 ⊢
  generalize (eF F__law_take (osCons (oV 0) (osCons (oE (eF F__law_of (osCons (oV 0) (osCons (oE (eLst (osCons (oE (eK (.int 1))) (osCons (oE (eK (.int 4))) (osCons (oE (eK (.int 11))) osNil))))) osNil)))) osNil))) = X2 at e2 ⊢
  generalize (eF F__law_take (osCons (oV 0) (osCons (oE (eF F__law_of (osCons (oV 0) (osCons (oE (eLst (osCons (oE (eK (.int 2))) (osCons (oE (eK (.int 6))) (osCons (oE (eK (.int 40))) osNil))))) osNil)))) osNil))) = X3 at e3 ⊢
  refine ⟨(k1, k2, 1 + k3), p3, ⟨by simp; omega, by simp; omega, by simp; omega⟩, hp3.mono (by omega), ?_⟩
  simp [e1, e2, e3, pu, sl0, hD]
theorem draw_app {n : Nat} {pot : D} (hp : PotOk n pot) (hn : n < 800000000) (old : List Nat) (c : Nat) (hs : List Heir) (hl : hs.length < 1000) (v4 : Option D) (h : Heir) (hh : HeirOk h) (ok : ∀ x ∈ hs, HeirOk x) : ∃ (h' : Heir) (pot' : D), HeirOk h' ∧ PotOk (n + 1) pot' ∧ (sExp (eMut1 3 appF (eIf (bAnd (bE (eOp2 neD (oV 3) (oE (eLst osNil)))) (bE (eOp2 eqD (oE (eF F__law_take (osCons (oV 0) (osCons (oE (eK (.int 4))) osNil)))) (oE (eK (.int 0)))))) (eOp2 ixD2 (oV 3) (oE (eUn negD (oE (eK (.int 1)))))) (eV 16)))) (dE pot old c (.lst (hs.map hD)) v4 (some (hD h))) = some (.nx, dE pot' old c (.lst ((hs ++ [h']).map hD)) v4 (some (hD h))) := by
  have A := fun x => op_app (xs := hs.map hD) x (by simp; omega)
  have S : (D.lst (hs.map hD)).shp = true := encH.lstShp hs
  have E : (D.lst (hs.map hD)).eqv (.lst []) = decide (hs = []) := encH.lstEq hs []
  by_cases q : hs = []
  · refine ⟨h, pot, hh, hp.mono (by omega), ?_⟩
    subst q
    have A := fun x => op_app (xs := []) x (by decide)
    simp [eqv_l0, A]
  · obtain ⟨k, p2, hk, hp2, e2⟩ := tk_ev (pot := pot) (pot' := pot) (W := [some (pR old), some (.int c), some (.lst (hs.map hD)), v4, none, none, none, none, none, none, none, none, none, none, none, some (hD h), none, none, none, none, none, none, none, none, none]) (u := 4) (ux := eK (.int 4)) hp (by omega) (by decide) (by decide) rfl
    generalize (eF F__law_take (osCons (oV 0) (osCons (oE (eK (.int 4))) osNil))) = X at e2 ⊢
    have L : (hs.map hD).getLast? = some (hD (hs.getLast q)) := by rw [List.getLast?_map, List.getLast?_eq_some_getLast q]; rfl
    have z : (D.int (k : Int)).eqv (.int 0) = decide (k = 0) := encN.eq k 0
    by_cases g : k = 0
    · refine ⟨hs.getLast q, p2, ok _ (List.getLast_mem q), hp2, ?_⟩
      subst g
      simp [e2, S, E, q, A, L, atI_m1]
    · refine ⟨h, p2, hh, hp2, ?_⟩
      simp [e2, S, E, q, A, g]
theorem draw_heirs {n : Nat} {pot : D} (hp : PotOk n pot) (hn : n < 750000000) (old : List Nat) (c : Nat) : Wp ((sFor (iRange 1 (osCons (oE (eF F__law_of (osCons (oV 0) (osCons (oE (eLst (osCons (oE (eK (.int 0))) (osCons (oE (eK (.int 1))) (osCons (oE (eK (.int 2))) (osCons (oE (eK (.int 3))) (osCons (oE (eK (.int 3))) (osCons (oE (eK (.int 4))) osNil)))))))) osNil)))) osNil)) (gN (pu sl0 (pinOf [true])) 4) (sSeq (sAsg (eTup (osCons (oE (eCa intOfD (osCons (oE (eF F__law_take (osCons (oV 0) (osCons (oE (eF F__law_of (osCons (oV 0) (osCons (oE (eLst (osCons (oE (eK (.int 2))) (osCons (oE (eK (.int 6))) (osCons (oE (eK (.int 41))) osNil))))) osNil)))) osNil)))) osNil))) (osCons (oE (eCa intOfD (osCons (oE (eF F__law_take (osCons (oV 0) (osCons (oE (eF F__law_of (osCons (oV 0) (osCons (oE (eLst (osCons (oE (eK (.int 1))) (osCons (oE (eK (.int 4))) (osCons (oE (eK (.int 11))) osNil))))) osNil)))) osNil)))) osNil))) (osCons (oE (eCa intOfD (osCons (oE (eOp2 addD (oE (eK (.int 1))) (oE (eF F__law_take (osCons (oV 0) (osCons (oE (eF F__law_of (osCons (oV 0) (osCons (oE (eLst (osCons (oE (eK (.int 2))) (osCons (oE (eK (.int 6))) (osCons (oE (eK (.int 40))) osNil))))) osNil)))) osNil)))))) osNil))) osNil)))) (gN (pu sl0 (pinOf [true])) 16)) (sExp (eMut1 3 appF (eIf (bAnd (bE (eOp2 neD (oV 3) (oE (eLst osNil)))) (bE (eOp2 eqD (oE (eF F__law_take (osCons (oV 0) (osCons (oE (eK (.int 4))) osNil)))) (oE (eK (.int 0)))))) (eOp2 ixD2 (oV 3) (oE (eUn negD (oE (eK (.int 1)))))) (eV 16)))))) (dE pot old c (.lst []) none none)) fun k E => k = .nx ∧ ∃ (hs : List Heir) (pot' : D) (v4 v16 : Option D), hs.length ≤ 4 ∧ (∀ x ∈ hs, HeirOk x) ∧ PotOk (n + 40) pot' ∧ E = dE pot' old c (.lst (hs.map hD)) v4 v16 := by
  obtain ⟨m, p1, hm, hp1, e1⟩ := of_ev (W := [some (pR old), some (.int c), some (.lst []), none, none, none, none, none, none, none, none, none, none, none, none, none, none, none, none, none, none, none, none, none, none]) (us := [0, 1, 2, 3, 3, 4]) (lx := (eLst (osCons (oE (eK (.int 0))) (osCons (oE (eK (.int 1))) (osCons (oE (eK (.int 2))) (osCons (oE (eK (.int 3))) (osCons (oE (eK (.int 3))) (osCons (oE (eK (.int 4))) osNil)))))))) hp (by omega) (by decide) (by decide) (fun p => by simp)
  have hm : m ≤ 4 := by simp at hm; omega
  refine wp_for_range (tk := .own (.int m)) (E0 := dE p1 old c (.lst []) none none) m (fun j E => ∃ (hs : List Heir) (pot' : D) (v4 v16 : Option D), hs.length = j ∧ (∀ x ∈ hs, HeirOk x) ∧ PotOk (n + 1 + 7 * j) pot' ∧ E = dE pot' old c (.lst (hs.map hD)) v4 v16) (by simp only [ev_osCons, ev_oE, e1]; rfl) rfl (by omega) ⟨[], p1, none, none, rfl, by simp, hp1, rfl⟩ (fun j E hj h => ?_) (fun E h => ?_)
  · obtain ⟨hs, pot', v4, v16, h1, h2, h3, rfl⟩ := h
    refine ⟨dE pot' old c (.lst (hs.map hD)) (some (.int j)) v16, by simp [pu, sl0], ?_⟩
    obtain ⟨h, p2, hh, hp2, e2⟩ := draw_one h3 (by omega) old c (.lst (hs.map hD)) (some (.int j)) v16
    obtain ⟨h', p3, hh', hp3, e3⟩ := draw_app hp2 (by omega) old c hs (by omega) (some (.int j)) h hh h2
    generalize (sAsg (eTup (osCons (oE (eCa intOfD (osCons (oE (eF F__law_take (osCons (oV 0) (osCons (oE (eF F__law_of (osCons (oV 0) (osCons (oE (eLst (osCons (oE (eK (.int 2))) (osCons (oE (eK (.int 6))) (osCons (oE (eK (.int 41))) osNil))))) osNil)))) osNil)))) osNil))) (osCons (oE (eCa intOfD (osCons (oE (eF F__law_take (osCons (oV 0) (osCons (oE (eF F__law_of (osCons (oV 0) (osCons (oE (eLst (osCons (oE (eK (.int 1))) (osCons (oE (eK (.int 4))) (osCons (oE (eK (.int 11))) osNil))))) osNil)))) osNil)))) osNil))) (osCons (oE (eCa intOfD (osCons (oE (eOp2 addD (oE (eK (.int 1))) (oE (eF F__law_take (osCons (oV 0) (osCons (oE (eF F__law_of (osCons (oV 0) (osCons (oE (eLst (osCons (oE (eK (.int 2))) (osCons (oE (eK (.int 6))) (osCons (oE (eK (.int 40))) osNil))))) osNil)))) osNil)))))) osNil))) osNil)))) (gN (pu sl0 (pinOf [true])) 16)) = X1 at e2 ⊢
    generalize (sExp (eMut1 3 appF (eIf (bAnd (bE (eOp2 neD (oV 3) (oE (eLst osNil)))) (bE (eOp2 eqD (oE (eF F__law_take (osCons (oV 0) (osCons (oE (eK (.int 4))) osNil)))) (oE (eK (.int 0)))))) (eOp2 ixD2 (oV 3) (oE (eUn negD (oE (eK (.int 1)))))) (eV 16)))) = X2 at e3 ⊢
    refine Wp.of (a := .nx) (E := dE p3 old c (.lst ((hs ++ [h']).map hD)) (some (.int j)) (some (hD h))) (by simp only [ev_sSeq, e2, e3, Option.bind_some]) ?_
    refine ⟨hs ++ [h'], p3, _, _, by simp [h1], fun x hx => ?_, hp3.mono (by omega), rfl⟩
    rcases List.mem_append.mp hx with z | z
    · exact h2 x z
    · rw [List.mem_singleton.mp z]; exact hh'
  · obtain ⟨hs, pot', v4, v16, h1, h2, h3, rfl⟩ := h
    exact ⟨rfl, hs, pot', v4, v16, by omega, h2, h3.mono (by omega), rfl⟩
theorem draw_all {n : Nat} {pot : D} (hp : PotOk n pot) (hn : n < 700000000) : ∃ (pot' : D) (old : List Nat) (c : Nat) (hs : List Heir) (v4 v16 : Option D), Town c old hs ∧ PotOk (n + 60) pot' ∧ ∀ K : SX, (sSeq (sAsg (eCa tupOfD (osCons (oE (eCa sortD2 (osCons (oE (eComp (iRange 1 (osCons (oE (eF F__law_take (osCons (oV 0) (osCons (oE (eK (.int 4))) osNil)))) osNil)) [4] (gN (po [4]) 4) bYes (eCa intOfD (osCons (oE (eF F__law_take (osCons (oV 0) (osCons (oE (eF F__law_of (osCons (oV 0) (osCons (oE (eLst (osCons (oE (eK (.int 3))) (osCons (oE (eK (.int 12))) (osCons (oE (eK (.int 61))) osNil))))) osNil)))) osNil)))) osNil)))) osNil))) osNil)) (gN (pinOf [true]) 1)) (sSeq (sAsg (eTup (osCons (oE (eCa intOfD (osCons (oE (eOp2 addD (oE (eCa max2D (osCons (oE (eK (.int 1))) (osCons (oE (eCa lenD (osCons (oV 1) osNil))) osNil)))) (oE (eF F__law_take (osCons (oV 0) (osCons (oE (eF F__law_of (osCons (oV 0) (osCons (oE (eLst (osCons (oE (eK (.int 1))) (osCons (oE (eK (.int 2))) (osCons (oE (eK (.int 3))) osNil))))) osNil)))) osNil)))))) osNil))) (osCons (oE (eLst osNil)) osNil))) (gTup 2 (gsCons (gN (pinOf [true]) 2) (gsCons (gN (pinOf [true]) 3) gsNil)))) (sSeq (sFor (iRange 1 (osCons (oE (eF F__law_of (osCons (oV 0) (osCons (oE (eLst (osCons (oE (eK (.int 0))) (osCons (oE (eK (.int 1))) (osCons (oE (eK (.int 2))) (osCons (oE (eK (.int 3))) (osCons (oE (eK (.int 3))) (osCons (oE (eK (.int 4))) osNil)))))))) osNil)))) osNil)) (gN (pu sl0 (pinOf [true])) 4) (sSeq (sAsg (eTup (osCons (oE (eCa intOfD (osCons (oE (eF F__law_take (osCons (oV 0) (osCons (oE (eF F__law_of (osCons (oV 0) (osCons (oE (eLst (osCons (oE (eK (.int 2))) (osCons (oE (eK (.int 6))) (osCons (oE (eK (.int 41))) osNil))))) osNil)))) osNil)))) osNil))) (osCons (oE (eCa intOfD (osCons (oE (eF F__law_take (osCons (oV 0) (osCons (oE (eF F__law_of (osCons (oV 0) (osCons (oE (eLst (osCons (oE (eK (.int 1))) (osCons (oE (eK (.int 4))) (osCons (oE (eK (.int 11))) osNil))))) osNil)))) osNil)))) osNil))) (osCons (oE (eCa intOfD (osCons (oE (eOp2 addD (oE (eK (.int 1))) (oE (eF F__law_take (osCons (oV 0) (osCons (oE (eF F__law_of (osCons (oV 0) (osCons (oE (eLst (osCons (oE (eK (.int 2))) (osCons (oE (eK (.int 6))) (osCons (oE (eK (.int 40))) osNil))))) osNil)))) osNil)))))) osNil))) osNil)))) (gN (pu sl0 (pinOf [true])) 16)) (sExp (eMut1 3 appF (eIf (bAnd (bE (eOp2 neD (oV 3) (oE (eLst osNil)))) (bE (eOp2 eqD (oE (eF F__law_take (osCons (oV 0) (osCons (oE (eK (.int 4))) osNil)))) (oE (eK (.int 0)))))) (eOp2 ixD2 (oV 3) (oE (eUn negD (oE (eK (.int 1)))))) (eV 16)))))) (sSeq (sAsg (eCa tupOfD (osCons (oV 3) osNil)) (gN (pinOf [true]) 3)) K)))) (some pot :: N25) = K (dE pot' old c (hsD hs) v4 v16) := by
  obtain ⟨old, p1, o1, o2, o3, hp1, e1⟩ := draw_old hp (by omega)
  obtain ⟨c, p2, c1, c2, c3, hp2, e2⟩ := draw_chairs hp1 (by omega) o1
  obtain ⟨k, E, e3, rfl, hs, p3, v4, v16, h1, h2, hp3, rfl⟩ := draw_heirs hp2 (by omega) old c
  refine ⟨p3, old, c, hs, v4, v16, ⟨c1, c2, c3, o2, o3, h1, fun h hh => (h2 h hh).1, fun h hh => (h2 h hh).2.1, fun h hh => (h2 h hh).2.2⟩, hp3.mono (by omega), fun K => ?_⟩
  generalize (sAsg (eCa tupOfD (osCons (oE (eCa sortD2 (osCons (oE (eComp (iRange 1 (osCons (oE (eF F__law_take (osCons (oV 0) (osCons (oE (eK (.int 4))) osNil)))) osNil)) [4] (gN (po [4]) 4) bYes (eCa intOfD (osCons (oE (eF F__law_take (osCons (oV 0) (osCons (oE (eF F__law_of (osCons (oV 0) (osCons (oE (eLst (osCons (oE (eK (.int 3))) (osCons (oE (eK (.int 12))) (osCons (oE (eK (.int 61))) osNil))))) osNil)))) osNil)))) osNil)))) osNil))) osNil)) (gN (pinOf [true]) 1)) = X1 at e1 ⊢
  generalize (sAsg (eTup (osCons (oE (eCa intOfD (osCons (oE (eOp2 addD (oE (eCa max2D (osCons (oE (eK (.int 1))) (osCons (oE (eCa lenD (osCons (oV 1) osNil))) osNil)))) (oE (eF F__law_take (osCons (oV 0) (osCons (oE (eF F__law_of (osCons (oV 0) (osCons (oE (eLst (osCons (oE (eK (.int 1))) (osCons (oE (eK (.int 2))) (osCons (oE (eK (.int 3))) osNil))))) osNil)))) osNil)))))) osNil))) (osCons (oE (eLst osNil)) osNil))) (gTup 2 (gsCons (gN (pinOf [true]) 2) (gsCons (gN (pinOf [true]) 3) gsNil)))) = X2 at e2 ⊢
  generalize (sFor (iRange 1 (osCons (oE (eF F__law_of (osCons (oV 0) (osCons (oE (eLst (osCons (oE (eK (.int 0))) (osCons (oE (eK (.int 1))) (osCons (oE (eK (.int 2))) (osCons (oE (eK (.int 3))) (osCons (oE (eK (.int 3))) (osCons (oE (eK (.int 4))) osNil)))))))) osNil)))) osNil)) (gN (pu sl0 (pinOf [true])) 4) (sSeq (sAsg (eTup (osCons (oE (eCa intOfD (osCons (oE (eF F__law_take (osCons (oV 0) (osCons (oE (eF F__law_of (osCons (oV 0) (osCons (oE (eLst (osCons (oE (eK (.int 2))) (osCons (oE (eK (.int 6))) (osCons (oE (eK (.int 41))) osNil))))) osNil)))) osNil)))) osNil))) (osCons (oE (eCa intOfD (osCons (oE (eF F__law_take (osCons (oV 0) (osCons (oE (eF F__law_of (osCons (oV 0) (osCons (oE (eLst (osCons (oE (eK (.int 1))) (osCons (oE (eK (.int 4))) (osCons (oE (eK (.int 11))) osNil))))) osNil)))) osNil)))) osNil))) (osCons (oE (eCa intOfD (osCons (oE (eOp2 addD (oE (eK (.int 1))) (oE (eF F__law_take (osCons (oV 0) (osCons (oE (eF F__law_of (osCons (oV 0) (osCons (oE (eLst (osCons (oE (eK (.int 2))) (osCons (oE (eK (.int 6))) (osCons (oE (eK (.int 40))) osNil))))) osNil)))) osNil)))))) osNil))) osNil)))) (gN (pu sl0 (pinOf [true])) 16)) (sExp (eMut1 3 appF (eIf (bAnd (bE (eOp2 neD (oV 3) (oE (eLst osNil)))) (bE (eOp2 eqD (oE (eF F__law_take (osCons (oV 0) (osCons (oE (eK (.int 4))) osNil)))) (oE (eK (.int 0)))))) (eOp2 ixD2 (oV 3) (oE (eUn negD (oE (eK (.int 1)))))) (eV 16)))))) = X3 at e3 ⊢
  have im := encH.imms hs
  simp [e1, e2, e3, im, hsD]
end K59
end
section
namespace K59
open PySem PySem.Spec L2 Dn
/-! ### what repr takes -/
theorem lg {i : Int} (h : i.natAbs < 10 ^ 12) : i.natAbs.log2 < 1920 := by
  by_cases h0 : i.natAbs = 0
  · rw [h0]; decide
  · exact Nat.lt_trans ((Nat.log2_lt h0).mpr (Nat.lt_trans h (by decide : 10 ^ 12 < 2 ^ 40))) (by decide)
theorem ok_app {a b : Str} (h1 : PyData.strOk a = true) (h2 : PyData.strOk b = true) : PyData.strOk (a ++ b) = true := by
  unfold PyData.strOk at *
  rw [Array.all_eq_true_iff_forall_mem] at *
  intro c hc
  have e : (a ++ b).cps = a.cps ++ b.cps := rfl
  rw [e, Array.mem_append] at hc
  exact hc.elim (h1 c) (h2 c)
theorem ok_of (s : String) : PyData.strOk (Str.ofString s) = true := by
  unfold PyData.strOk
  rw [Str.ofString_eq_toList, Array.all_eq_true_iff_forall_mem]
  intro c hc
  simp only [List.mem_toArray, List.mem_map] at hc
  obtain ⟨d, _, rfl⟩ := hc
  have := d.valid
  have e : d.toNat = d.val.toNat := rfl
  refine decide_eq_true ?_
  rw [e]
  rcases this with h | ⟨_, h⟩
  · omega
  · exact h
theorem ok_join {s : Str} (h : PyData.strOk s = true) : ∀ ts : List Str, (∀ t ∈ ts, PyData.strOk t = true) → PyData.strOk (Str.join s ts) = true
  | [], _ => by show Array.all #[] _ = true; simp
  | [x], h2 => h2 x (by simp)
  | x :: y :: r, h2 => ok_app (ok_app (h2 x (by simp)) h) (ok_join h (y :: r) fun t ht => h2 t (List.mem_cons_of_mem _ ht))
theorem ok_tup (ts : List Str) (h : ∀ t ∈ ts, PyData.strOk t = true) : PyData.strOk (tupleText ts) = true := by
  unfold tupleText
  refine ok_app (ok_app (ok_of _) (ok_join (ok_of _) ts h)) ?_
  exact ok_of _
theorem rok_int {i : Int} (h : i.natAbs < 10 ^ 12) : (D.int i).rok = true := by
  have l : PyData.leavesShort 2000 (.int i) = true := by
    have z := PyData.shown_int_le h
    show decide _ = true
    exact decide_eq_true (by omega)
  have sh : PyData.showable (.int i) = true := decide_eq_true (lg h)
  simp only [D.rok, D.py, l, sh, PyData.canLay0, PyData.depth, PyData.bulk]
  decide

theorem shp_str {x : Str} (h : PyData.strOk x = true) : (D.str x).shp = true := by simp [D.shp, D.py, SeqAt.shaped, PyData.canLay0, PyData.depth, h]
/-- repr of it is a text -/
def RS (d : D) : Prop := ∃ x : Str, reprD [d] = some (.str x) ∧ (D.str x).shp = true
theorem rs_of {d : D} (h : d.rok = true) (h2 : PyData.strOk d.py.shown = true) : RS d := ⟨d.py.shown, if_pos h, shp_str h2⟩
theorem rs_int {i : Int} (h : i.natAbs < 10 ^ 12) : RS (.int i) := rs_of (rok_int h) (ok_of _)
theorem rok_non : D.non.rok = true := rfl
theorem rs_oI {o : Option Int} (h : ∀ i, o = some i → i.natAbs < 10 ^ 12) : RS (oI o) := by
  cases o with
  | none => exact rs_of rok_non (ok_of _)
  | some i => exact rs_int (h i rfl)
theorem rok_oN {o : Option Nat} (h : ∀ i, o = some i → i < 10 ^ 6) : (oN o).rok = true := by
  cases o with
  | none => exact rok_non
  | some i => exact rok_int (by have := h i rfl; omega)
theorem shAll_oN : ∀ g : List (Option Nat), (∀ o ∈ g, ∀ i, o = some i → i < 10 ^ 6) → PyData.showableAll (D.pys (g.map oN)) = true ∧ PyData.leavesShortAll 2000 (D.pys (g.map oN)) = true ∧ PyData.bulkAll (D.pys (g.map oN)) = g.length
  | [], _ => ⟨rfl, rfl, rfl⟩
  | o :: r, h => by
    obtain ⟨h1, h2, h3⟩ := shAll_oN r fun m hm => h m (List.mem_cons_of_mem _ hm)
    have q := rok_oN (h o (List.mem_cons_self ..))
    have b : PyData.bulk (oN o).py = 0 := by cases o <;> rfl
    unfold D.rok at q
    simp only [Bool.and_eq_true] at q
    simp only [List.map_cons, D.pys, PyData.showableAll, PyData.leavesShortAll, PyData.bulkAll, b, h1, h2, h3, q.1.2, q.1.1.1.2, Bool.and_true, List.length_cons, true_and]
    omega
theorem ok_shO : ∀ g : List (Option Nat), ∀ t ∈ PyData.shownAll (D.pys (g.map oN)), PyData.strOk t = true
  | [], t, h => nomatch h
  | o :: r, t, h => by
    rcases List.mem_cons.mp h with h | h
    · rw [h]; cases o <;> exact ok_of _
    · exact ok_shO r t h
theorem rs_gT {g : List (Option Nat)} (h : ∀ o ∈ g, ∀ i, o = some i → i < 10 ^ 6) (hl : g.length ≤ 4000) : RS (gT g) := by
  refine rs_of ?_ ?_
  · obtain ⟨h1, h2, h3⟩ := shAll_oN g h
    have sh := encON.tup.sh g
    unfold D.shN at sh
    rw [Bool.and_eq_true, decide_eq_true_eq] at sh
    have sh1 := sh.1
    have sh2 := sh.2
    simp only [D.py, PyData.canLay0, PyData.depth] at sh1 sh2
    unfold D.rok
    simp only [gT, D.py, PyData.canLay0, PyData.showable, PyData.leavesShort, PyData.bulk, PyData.depth, h1, h2, h3, hl, decide_true, sh1, Bool.and_true, Bool.true_and]
    exact decide_eq_true (by omega)
  · show PyData.strOk (PyData.shown (PyData.tuple (D.pys (g.map oN)))) = true
    exact ok_tup _ (ok_shO g)
theorem rs_ne {d : D} (h : RS d) : ∃ x : Str, reprD [d] = some (.str x) ∧ neD (.str x) (.str x) = some (.bl false) := by
  obtain ⟨x, e, s⟩ := h
  exact ⟨x, e, by unfold neD; rw [s]; simp⟩
/-! ### what is worked out first -/
section
variable (c : Nat) (old : List Nat) (hs : List Heir)
def runL : D := .lst ((ranks hs.length).map fun r => gT (giv c old hs r))
def greL : D := .lst ((ranks hs.length).map fun r => oI (lng (wts hs (giv c old hs r))))
def knL : D := .lst (((fai c old hs).map (·.1)).map D.int)
abbrev toD : D := oR (bestRow (fai c old hs))
variable (pot : D) (v4 v10 v11 v12 v13 v14 v15 v16 v17 v18 v19 v20 v21 v22 : Option D)
abbrev mE : Dn.Env := [some pot, some (pR old), some (.int c), some (hsD hs), v4, some (rL (ranks hs.length)), some (runL c old hs), some (greL c old hs), some (knL c old hs), some (toD c old hs), v10, v11, v12, v13, v14, v15, v16, v17, v18, v19, v20, v21, v22, none, none, none]
end
theorem known_eq (f : List Nat → Option Int) : ∀ R : List (List Nat), ((R.map f).filter (·.isSome)).map oI = ((keep (R.map fun r => (f r, r))).map (·.1)).map D.int
  | [] => rfl
  | r :: R => by
    have ih := known_eq f R
    cases h : f r with
    | none => simpa [keep, h] using ih
    | some i =>
      simp only [keep, List.map_cons, h, List.filterMap_cons, Option.map_some, List.filter_cons, Option.isSome_some, if_true] at ih ⊢
      rw [ih]
      rfl
section
variable {c : Nat} {old : List Nat} {hs : List Heir} (t : Town c old hs)
include t
theorem run_c (W : Dn.Env) (x y z w v : Option D) : (eComp (iSeq (oV 5)) [11] (gN (po [11]) 11) bYes (eF F__law_run (osCons (oV 2) (osCons (oV 1) (osCons (oV 3) (osCons (oV 11) osNil)))))) [z, some (pR old), some (.int c), some (hsD hs), w, some (rL (ranks hs.length)), none, none, none, none, none, none, none, none, none, none, v, none, none, none, none, none, none, none, none, none] = some (runL c old hs, [z, some (pR old), some (.int c), some (hsD hs), w, some (rL (ranks hs.length)), none, none, none, none, none, none, none, none, none, none, v, none, none, none, none, none, none, none, none, none]) := by
  have sm : (ranks hs.length).length ≤ 256 := rows_small t.hl _ t.hl
  refine Wp.eq (wp_comp_seq (tk := .slot 5) (s := .sl 5) (ranks hs.length) pR (fun _ => true) (fun r => gT (giv c old hs r)) rfl (by simp [scOf, rL]) rfl rfl (by omega) (fun r _ => pR_imm r) (fun r hr => ?_) ?_)
  · have G := F_law_run_h t (rank_of_mem t.hl hr)
    refine ⟨_, by simp [wipeE, po]; rfl, ?_⟩
    simp [wipeE, bYes, ioOf, ioSl, apart, putOuts, G]
  · simp [wipeE, backE, runL]
theorem gre_c (z w v : Option D) : (eComp (iSeq (oV 6)) [12] (gN (po [12]) 12) bYes (eF F__law_greatest (osCons (oV 3) (osCons (oV 12) osNil)))) [z, some (pR old), some (.int c), some (hsD hs), w, some (rL (ranks hs.length)), some (runL c old hs), none, none, none, none, none, none, none, none, none, v, none, none, none, none, none, none, none, none, none] = some (greL c old hs, [z, some (pR old), some (.int c), some (hsD hs), w, some (rL (ranks hs.length)), some (runL c old hs), none, none, none, none, none, none, none, none, none, v, none, none, none, none, none, none, none, none, none]) := by
  have sm : (ranks hs.length).length ≤ 256 := rows_small t.hl _ t.hl
  refine Wp.eq (wp_comp_seq (tk := .slot 6) (s := .sl 6) (ranks hs.length) (fun r => gT (giv c old hs r)) (fun _ => true) (fun r => oI (lng (wts hs (giv c old hs r)))) rfl (by simp [scOf, runL]) rfl rfl (by omega) (fun r _ => gT_imm _) (fun r hr => ?_) ?_)
  · have G := F_greatest_h hs t.hl (giv c old hs r)
    refine ⟨_, by simp [wipeE, po]; rfl, ?_⟩
    simp [wipeE, bYes, ioOf, ioSl, apart, putOuts, G]
  · simp [wipeE, backE, greL]
theorem kn_c (z w v : Option D) : (eComp (iSeq (oV 7)) [23] (gN (po [23]) 23) (bE (eOp2 isNotND (oV 23) (oE (eK .non)))) (eV 23)) [z, some (pR old), some (.int c), some (hsD hs), w, some (rL (ranks hs.length)), some (runL c old hs), some (greL c old hs), none, none, none, none, none, none, none, none, v, none, none, none, none, none, none, none, none, none] = some (knL c old hs, [z, some (pR old), some (.int c), some (hsD hs), w, some (rL (ranks hs.length)), some (runL c old hs), some (greL c old hs), none, none, none, none, none, none, none, none, v, none, none, none, none, none, none, none, none, none]) := by
  have sm : (ranks hs.length).length ≤ 256 := rows_small t.hl _ t.hl
  refine Wp.eq (wp_comp_seq (tk := .slot 7) (s := .sl 7) ((ranks hs.length).map fun r => lng (wts hs (giv c old hs r))) oI (fun o => o.isSome) oI rfl (by simp [scOf, greL]) (by simp [greL, Sc.items, Function.comp_def]) (by simp [greL, Sc.items, wipeE, Function.comp_def]) (by rw [List.length_map]; omega) (fun r _ => oI_imm r) (fun o ho => ?_) ?_)
  · refine ⟨_, by simp [wipeE, po]; rfl, ?_⟩
    cases o <;> simp [wipeE, oI]
  · rw [known_eq]
    simp [wipeE, backE, knL, fai]
theorem first_ok (pot : D) (v4 v16 : Option D) (K : SX) : (sSeq (sAsg (eF F__law_ranks (osCons (oE (eCa lenD (osCons (oV 3) osNil))) osNil)) (gN (pinOf [true]) 5)) (sSeq (sAsg (eComp (iSeq (oV 5)) [11] (gN (po [11]) 11) bYes (eF F__law_run (osCons (oV 2) (osCons (oV 1) (osCons (oV 3) (osCons (oV 11) osNil)))))) (gN (pinOf [true]) 6)) (sSeq (sAsg (eComp (iSeq (oV 6)) [12] (gN (po [12]) 12) bYes (eF F__law_greatest (osCons (oV 3) (osCons (oV 12) osNil)))) (gN (pinOf [true]) 7)) (sSeq (sAsg (eComp (iSeq (oV 7)) [23] (gN (po [23]) 23) (bE (eOp2 isNotND (oV 23) (oE (eK .non)))) (eV 23)) (gN (pinOf [true]) 8)) (sSeq (sAsg (eF F_fairest (osCons (oV 2) (osCons (oV 1) (osCons (oV 3) osNil)))) (gN (pinOf [true]) 9)) K))))) (dE pot old c (hsD hs) v4 v16) = K (mE c old hs pot v4 none none none none none none v16 none none none none none none) := by
  have RK := F_lr_h t.hl
  have C1 := run_c t [] none none (some pot) v4 v16
  have C2 := gre_c t (some pot) v4 v16
  have C3 := kn_c t (some pot) v4 v16
  have FA := F_fairest_h t
  have im : D.imm (toD c old hs) = true := by unfold toD; cases bestRow (fai c old hs) <;> simp [oR]
  generalize (eComp (iSeq (oV 5)) [11] (gN (po [11]) 11) bYes (eF F__law_run (osCons (oV 2) (osCons (oV 1) (osCons (oV 3) (osCons (oV 11) osNil)))))) = X1 at C1 ⊢
  generalize (eComp (iSeq (oV 6)) [12] (gN (po [12]) 12) bYes (eF F__law_greatest (osCons (oV 3) (osCons (oV 12) osNil)))) = X2 at C2 ⊢
  generalize (eComp (iSeq (oV 7)) [23] (gN (po [23]) 23) (bE (eOp2 isNotND (oV 23) (oE (eK .non)))) (eV 23)) = X3 at C3 ⊢
  simp [C1, C2, C3, RK, FA, ioOf, ioSl, apart, putOuts]
end
end K59
end
section
namespace K59
open PySem PySem.Spec L2 Dn
section
variable {c : Nat} {old : List Nat} {hs : List Heir} (t : Town c old hs)
omit t in
theorem idx_ok {n : Nat} {r : List Nat} (h : r ∈ ranks n) : ∃ j : Nat, idxD "list" (rL (ranks n)) [pR r] = some (.int j) ∧ (ranks n)[j]? = some r := by
  have f : ((ranks n).map pR).findIdx? (fun y => y.eqv (pR r)) = (ranks n).findIdx? fun b => decide (b = r) := encN.tup.find r (ranks n)
  have S : (rL (ranks n)).shp = true := encN.tup.lstShp (ranks n)
  have S2 : (pR r).shp = true := encN.tupShp r
  cases e : (ranks n).findIdx? (fun b => decide (b = r)) with
  | none => exact absurd (List.findIdx?_eq_none_iff.mp e r h) (by simp)
  | some j =>
    rw [e] at f
    obtain ⟨hj, hz, _⟩ := List.findIdx?_eq_some_iff_getElem.mp e
    refine ⟨j, ?_, ?_⟩
    · unfold rL at S ⊢
      simp [idxD, S, S2, f]
    · rw [List.getElem?_eq_getElem hj, of_decide_eq_true hz]
omit t in
theorem rL_ix (R : List (List Nat)) {j : Nat} {r : List Nat} (h : R[j]? = some r) : ixD2 (rL R) (.int (j : Int)) = some (pR r) := by
  simp [rL, Dn.atI_nat, List.getElem?_map, h]
omit t in
theorem runL_ix (c : Nat) (old : List Nat) (hs : List Heir) {j : Nat} {r : List Nat} (h : (ranks hs.length)[j]? = some r) : ixD2 (runL c old hs) (.int (j : Int)) = some (gT (giv c old hs r)) := by
  simp [runL, Dn.atI_nat, List.getElem?_map, h]
omit t in
theorem greL_ix (c : Nat) (old : List Nat) (hs : List Heir) {j : Nat} {r : List Nat} (h : (ranks hs.length)[j]? = some r) : ixD2 (greL c old hs) (.int (j : Int)) = some (oI (lng (wts hs (giv c old hs r)))) := by
  simp [greL, Dn.atI_nat, List.getElem?_map, h]
omit t in
theorem knL_nil (c : Nat) (old : List Nat) (hs : List Heir) : (knL c old hs).shp = true ∧ (knL c old hs).eqv (.lst []) = decide (fai c old hs = []) := by
  refine ⟨encI.lstShp _, ?_⟩
  have := encI.lstEq ((fai c old hs).map (·.1)) []
  simp only [List.map_eq_nil_iff] at this
  exact this
include t
theorem best_ok (h : fai c old hs ≠ []) : ∃ p : Int × List Nat, p.2 ∈ ranks hs.length ∧ lng (wts hs (giv c old hs p.2)) = some p.1 ∧ bestRow (fai c old hs) = some p ∧ mmD minI [knL c old hs] = some (.int p.1) ∧ 0 ≤ p.1 ∧ p.1 ≤ 60 := by
  obtain ⟨p, hp, b, _, l⟩ := best_ne (fai_len (c := c) (old := old) (hs := hs)) h
  obtain ⟨m, l2, _, _, mm⟩ := least_min (L := (fai c old hs).map (·.1)) (by simpa using h)
  rw [l] at l2
  cases l2
  have q := mem_fai.mp hp
  exact ⟨p, q.1, q.2, b, mm, fai_ge hp⟩
variable (pot : D) (v4 v10 v11 v12 v13 v14 v15 v16 v17 v18 v19 v20 v21 v22 : Option D)
theorem told_ok : (sIf (bOr (bE (eOp2 neD (oE (eOp2 isND (oV 9) (oE (eK .non)))) (oE (eOp2 eqD (oV 8) (oE (eLst osNil)))))) (bE (eOp2 isNotBD (oE (eF F_shows_fairest (osCons (oV 2) (osCons (oV 1) (osCons (oV 3) (osCons (oV 9) osNil)))))) (oE (eK (.bl true)))))) (sRet (eK (.bl false))) sNil) (mE c old hs pot v4 v10 v11 v12 v13 v14 v15 v16 v17 v18 v19 v20 v21 v22) = some (.nx, mE c old hs pot v4 v10 v11 v12 v13 v14 v15 v16 v17 v18 v19 v20 v21 v22) := by
  obtain ⟨ks, ke⟩ := knL_nil c old hs
  by_cases h : fai c old hs = []
  · have b : bestRow (fai c old hs) = none := by rw [h]; rfl
    have F := F_fair_non t
    rw [b] at F
    have ke : (knL c old hs).eqv (.lst []) = true := by rw [ke, h]; rfl
    simp [toD, b, oR, ks, ke, F, ioOf, ioSl, apart, putOuts]
  · obtain ⟨p, hp, l, b, m, g1, g2⟩ := best_ok t h
    have F := F_fair_row t (v := p.1) (rank_of_mem t.hl hp)
    rw [b] at F
    have g3 : p.1 ≤ 100 := by omega
    simp [l, g1, g3] at F
    simp [toD, b, oR, ks, ke, h, F, ioOf, ioSl, apart, putOuts]
theorem told_ok2 : (sIf (bAnd (bE (eOp2 isNotND (oV 9) (oE (eK .non)))) (bOr (bE (eOp2 neD (oE (eCa reprD (osCons (oE (eOp2 ixD2 (oV 9) (oE (eK (.int 0))))) osNil))) (oE (eCa reprD (osCons (oE (eCa (mmD minI) (osCons (oV 8) osNil))) osNil))))) (bE (eOp2 neD (oE (eOp2 ixD2 (oV 7) (oE (eMeth "list" (idxD "list") (oV 5) (osCons (oE (eOp2 ixD2 (oV 9) (oE (eK (.int 1))))) osNil))))) (oE (eOp2 ixD2 (oV 9) (oE (eK (.int 0))))))))) (sRet (eK (.bl false))) sNil) (mE c old hs pot v4 v10 v11 v12 v13 v14 v15 v16 v17 v18 v19 v20 v21 v22) = some (.nx, mE c old hs pot v4 v10 v11 v12 v13 v14 v15 v16 v17 v18 v19 v20 v21 v22) := by
  by_cases h : fai c old hs = []
  · have b : bestRow (fai c old hs) = none := by rw [h]; rfl
    simp [toD, b, oR]
  · obtain ⟨p, hp, l, b, m, g1, g2⟩ := best_ok t h
    obtain ⟨j, ej, hj⟩ := idx_ok hp
    have G := greL_ix c old hs hj
    rw [l] at G
    obtain ⟨x, ex, nx⟩ := rs_int (i := p.1) (by omega)
    have RL : (rL (ranks hs.length)).ty = "list" := rfl
    simp [toD, b, oR, m, ej, G, oI, ex, nx, RL]
variable {q : Nat} {r : List Nat} (hq : (ranks hs.length)[q]? = some r)
include hq
theorem lap_1 : (sIf (bAnd (bE (eOp2 neD (oV 8) (oE (eLst osNil)))) (bE (eOp2 neD (oE (eF F_shows_fairest (osCons (oV 2) (osCons (oV 1) (osCons (oV 3) (osCons (oE (eTup (osCons (oE (eCa (mmD minI) (osCons (oV 8) osNil))) (osCons (oE (eOp2 ixD2 (oV 5) (oV 17))) osNil)))) osNil)))))) (oE (eOp2 eqD (oE (eOp2 ixD2 (oV 7) (oV 17))) (oE (eCa (mmD minI) (osCons (oV 8) osNil)))))))) (sRet (eK (.bl false))) sNil) (mE c old hs pot v4 v10 v11 v12 v13 v14 v15 v16 (some (.int q)) v18 v19 v20 v21 v22) = some (.nx, mE c old hs pot v4 v10 v11 v12 v13 v14 v15 v16 (some (.int q)) v18 v19 v20 v21 v22) := by
  obtain ⟨ks, ke⟩ := knL_nil c old hs
  by_cases h : fai c old hs = []
  · simp [ks, ke, h]
  · obtain ⟨p, hp, l, b, m, g1, g2⟩ := best_ok t h
    have F := F_fair_row t (v := p.1) (rank_of_mem t.hl (List.mem_of_getElem? hq))
    rw [b] at F
    have g3 : p.1 ≤ 100 := by omega
    simp [g1, g3, rD] at F
    have X := rL_ix _ hq
    have G := greL_ix c old hs hq
    have E : (oI (lng (wts hs (giv c old hs r)))).eqv (.int p.1) = decide (lng (wts hs (giv c old hs r)) = some p.1) := encO.eq (lng (wts hs (giv c old hs r))) (some p.1)
    generalize lng (wts hs (giv c old hs r)) = o at *
    simp [ks, ke, h, m, X, G, F, E, ioOf, ioSl, apart, putOuts]
theorem lap_2 : (sIf (bE (eOp2 neD (oE (eCa reprD (osCons (oE (eF F_given_in (osCons (oV 2) (osCons (oV 1) (osCons (oV 3) (osCons (oE (eOp2 ixD2 (oV 5) (oV 17))) osNil)))))) osNil))) (oE (eCa reprD (osCons (oE (eOp2 ixD2 (oV 6) (oV 17))) osNil))))) (sRet (eK (.bl false))) sNil) (mE c old hs pot v4 v10 v11 v12 v13 v14 v15 v16 (some (.int q)) v18 v19 v20 v21 v22) = some (.nx, mE c old hs pot v4 v10 v11 v12 v13 v14 v15 v16 (some (.int q)) v18 v19 v20 v21 v22) := by
  have F := F_given_in_h t (rank_of_mem t.hl (List.mem_of_getElem? hq))
  have X := rL_ix _ hq
  have G := runL_ix c old hs hq
  obtain ⟨x, ex, nx⟩ := (rs_gT (g := giv c old hs r) (fun o ho i e => by
    subst e
    unfold giv at ho
    obtain ⟨k, _, e⟩ := List.mem_map.mp ho
    have := gv_le c old hs r (i := k) e
    omega) (by rw [giv_len]; have := t.hl; omega))
  simp [X, G, F, ex, nx, ioOf, ioSl, apart, putOuts]
theorem lap_34 : ∃ v, (sSeq (sAsg (eF F_longest_wait (osCons (oV 2) (osCons (oV 1) (osCons (oV 3) (osCons (oE (eOp2 ixD2 (oV 5) (oV 17))) osNil))))) (gN (pu sl0 (pinOf [true])) 18)) (sIf (bE (eOp2 neD (oE (eCa reprD (osCons (oE (eIf (bE (eOp2 isND (oV 18) (oE (eK .non)))) (eK .non) (eOp2 ixD2 (oV 18) (oE (eK (.int 0)))))) osNil))) (oE (eCa reprD (osCons (oE (eOp2 ixD2 (oV 7) (oV 17))) osNil))))) (sRet (eK (.bl false))) sNil)) (mE c old hs pot v4 v10 v11 v12 v13 v14 v15 v16 (some (.int q)) v18 v19 v20 v21 v22) = some (.nx, mE c old hs pot v4 v10 v11 v12 v13 v14 v15 v16 (some (.int q)) v v19 v20 v21 v22) := by
  obtain ⟨d, F, hd⟩ := F_longest_wait_h t (rank_of_mem t.hl (List.mem_of_getElem? hq))
  have X := rL_ix _ hq
  have G := greL_ix c old hs hq
  refine ⟨some d, ?_⟩
  obtain ⟨x, ex, nx⟩ := (rs_oI (o := lng (wts hs (giv c old hs r))) (fun i e => by have := lng_ge e; omega))
  rcases hd with ⟨rfl, hd⟩ | ⟨k, rfl⟩
  · rw [hd] at ex G
    simp only [oI] at ex G
    simp [X, G, F, ex, nx, ioOf, ioSl, apart, putOuts, pu, sl0]
  · simp [X, G, F, ex, nx, ioOf, ioSl, apart, putOuts, pu, sl0]
theorem lap_5 : (sIf (bAnd (bE (eOp2 neD (oV 8) (oE (eLst osNil)))) (bE (eOp2 isNotBD (oE (eF F_shows_fairest (osCons (oV 2) (osCons (oV 1) (osCons (oV 3) (osCons (oE (eTup (osCons (oE (eOp2 addD (oE (eCa (mmD minI) (osCons (oV 8) osNil))) (oE (eK (.int 1))))) (osCons (oE (eOp2 ixD2 (oV 5) (oV 17))) osNil)))) osNil)))))) (oE (eK (.bl false)))))) (sRet (eK (.bl false))) sNil) (mE c old hs pot v4 v10 v11 v12 v13 v14 v15 v16 (some (.int q)) v18 v19 v20 v21 v22) = some (.nx, mE c old hs pot v4 v10 v11 v12 v13 v14 v15 v16 (some (.int q)) v18 v19 v20 v21 v22) := by
  obtain ⟨ks, ke⟩ := knL_nil c old hs
  by_cases h : fai c old hs = []
  · simp [ks, ke, h]
  · obtain ⟨p, hp, l, b, m, g1, g2⟩ := best_ok t h
    have F := F_fair_row t (v := p.1 + 1) (rank_of_mem t.hl (List.mem_of_getElem? hq))
    rw [b] at F
    have g3 : ¬ (p.1 + 1 = p.1) := by omega
    simp [g3, rD] at F
    have X := rL_ix _ hq
    simp [ks, ke, h, m, X, F, ioOf, ioSl, apart, putOuts]
omit hq
theorem lap_ok {n : Nat} (hp : PotOk n pot) (hn : n < 800000000) : ∃ (pot' : D) (w17 w18 : Option D), PotOk (n + 1) pot' ∧ (sSeq (sAsg (eF F__law_take (osCons (oV 0) (osCons (oE (eCa lenD (osCons (oV 5) osNil))) osNil))) (gN (pu sl0 (pinOf [true])) 17)) (sSeq (sIf (bAnd (bE (eOp2 neD (oV 8) (oE (eLst osNil)))) (bE (eOp2 neD (oE (eF F_shows_fairest (osCons (oV 2) (osCons (oV 1) (osCons (oV 3) (osCons (oE (eTup (osCons (oE (eCa (mmD minI) (osCons (oV 8) osNil))) (osCons (oE (eOp2 ixD2 (oV 5) (oV 17))) osNil)))) osNil)))))) (oE (eOp2 eqD (oE (eOp2 ixD2 (oV 7) (oV 17))) (oE (eCa (mmD minI) (osCons (oV 8) osNil)))))))) (sRet (eK (.bl false))) sNil) (sSeq (sIf (bE (eOp2 neD (oE (eCa reprD (osCons (oE (eF F_given_in (osCons (oV 2) (osCons (oV 1) (osCons (oV 3) (osCons (oE (eOp2 ixD2 (oV 5) (oV 17))) osNil)))))) osNil))) (oE (eCa reprD (osCons (oE (eOp2 ixD2 (oV 6) (oV 17))) osNil))))) (sRet (eK (.bl false))) sNil) (sSeq (sAsg (eF F_longest_wait (osCons (oV 2) (osCons (oV 1) (osCons (oV 3) (osCons (oE (eOp2 ixD2 (oV 5) (oV 17))) osNil))))) (gN (pu sl0 (pinOf [true])) 18)) (sSeq (sIf (bE (eOp2 neD (oE (eCa reprD (osCons (oE (eIf (bE (eOp2 isND (oV 18) (oE (eK .non)))) (eK .non) (eOp2 ixD2 (oV 18) (oE (eK (.int 0)))))) osNil))) (oE (eCa reprD (osCons (oE (eOp2 ixD2 (oV 7) (oV 17))) osNil))))) (sRet (eK (.bl false))) sNil) (sIf (bAnd (bE (eOp2 neD (oV 8) (oE (eLst osNil)))) (bE (eOp2 isNotBD (oE (eF F_shows_fairest (osCons (oV 2) (osCons (oV 1) (osCons (oV 3) (osCons (oE (eTup (osCons (oE (eOp2 addD (oE (eCa (mmD minI) (osCons (oV 8) osNil))) (oE (eK (.int 1))))) (osCons (oE (eOp2 ixD2 (oV 5) (oV 17))) osNil)))) osNil)))))) (oE (eK (.bl false)))))) (sRet (eK (.bl false))) sNil)))))) (mE c old hs pot v4 v10 v11 v12 v13 v14 v15 v16 v17 v18 v19 v20 v21 v22) = some (.nx, mE c old hs pot' v4 v10 v11 v12 v13 v14 v15 v16 w17 w18 v19 v20 v21 v22) := by
  have sm : (ranks hs.length).length ≤ 256 := rows_small t.hl _ t.hl
  have ps : 0 < (ranks hs.length).length := List.length_pos_iff.mpr (ranks_ne t.hl)
  obtain ⟨k, p2, hk, hp2, e2⟩ := tk_ev (pot := pot) (pot' := pot) (W := (mE c old hs pot v4 v10 v11 v12 v13 v14 v15 v16 v17 v18 v19 v20 v21 v22).tail) (u := (ranks hs.length).length) (ux := eCa lenD (osCons (oV 5) osNil)) hp (by omega) ps (by omega) (by simp [rL])
  have hq : (ranks hs.length)[k]? = some (ranks hs.length)[k] := List.getElem?_eq_getElem hk
  have L1 := lap_1 t p2 v4 v10 v11 v12 v13 v14 v15 v16 v18 v19 v20 v21 v22 hq
  have L2 := lap_2 t p2 v4 v10 v11 v12 v13 v14 v15 v16 v18 v19 v20 v21 v22 hq
  obtain ⟨d, L34⟩ := lap_34 t p2 v4 v10 v11 v12 v13 v14 v15 v16 v18 v19 v20 v21 v22 hq
  have L5 := lap_5 t p2 v4 v10 v11 v12 v13 v14 v15 v16 d v19 v20 v21 v22 hq
  refine ⟨p2, some (.int k), d, hp2, ?_⟩
  simp only [List.tail_cons] at e2
  generalize eF F__law_take (osCons (oV 0) (osCons (oE (eCa lenD (osCons (oV 5) osNil))) osNil)) = X0 at e2 ⊢
  generalize (sIf (bAnd (bE (eOp2 neD (oV 8) (oE (eLst osNil)))) (bE (eOp2 neD (oE (eF F_shows_fairest (osCons (oV 2) (osCons (oV 1) (osCons (oV 3) (osCons (oE (eTup (osCons (oE (eCa (mmD minI) (osCons (oV 8) osNil))) (osCons (oE (eOp2 ixD2 (oV 5) (oV 17))) osNil)))) osNil)))))) (oE (eOp2 eqD (oE (eOp2 ixD2 (oV 7) (oV 17))) (oE (eCa (mmD minI) (osCons (oV 8) osNil)))))))) (sRet (eK (.bl false))) sNil) = X1 at L1 ⊢
  generalize (sIf (bE (eOp2 neD (oE (eCa reprD (osCons (oE (eF F_given_in (osCons (oV 2) (osCons (oV 1) (osCons (oV 3) (osCons (oE (eOp2 ixD2 (oV 5) (oV 17))) osNil)))))) osNil))) (oE (eCa reprD (osCons (oE (eOp2 ixD2 (oV 6) (oV 17))) osNil))))) (sRet (eK (.bl false))) sNil) = X2 at L2 ⊢
  generalize (sAsg (eF F_longest_wait (osCons (oV 2) (osCons (oV 1) (osCons (oV 3) (osCons (oE (eOp2 ixD2 (oV 5) (oV 17))) osNil))))) (gN (pu sl0 (pinOf [true])) 18)) = X3 at L34 ⊢
  generalize (sIf (bE (eOp2 neD (oE (eCa reprD (osCons (oE (eIf (bE (eOp2 isND (oV 18) (oE (eK .non)))) (eK .non) (eOp2 ixD2 (oV 18) (oE (eK (.int 0)))))) osNil))) (oE (eCa reprD (osCons (oE (eOp2 ixD2 (oV 7) (oV 17))) osNil))))) (sRet (eK (.bl false))) sNil) = X4 at L34 ⊢
  generalize (sIf (bAnd (bE (eOp2 neD (oV 8) (oE (eLst osNil)))) (bE (eOp2 isNotBD (oE (eF F_shows_fairest (osCons (oV 2) (osCons (oV 1) (osCons (oV 3) (osCons (oE (eTup (osCons (oE (eOp2 addD (oE (eCa (mmD minI) (osCons (oV 8) osNil))) (oE (eK (.int 1))))) (osCons (oE (eOp2 ixD2 (oV 5) (oV 17))) osNil)))) osNil)))))) (oE (eK (.bl false)))))) (sRet (eK (.bl false))) sNil) = X5 at L5 ⊢
  have L3 : ∀ E, (sSeq X3 (sSeq X4 X5)) E = (sSeq (sSeq X3 X4) X5) E := fun E => by
    simp only [ev_sSeq]
    cases X3 E with
    | none => rfl
    | some s => rcases s with ⟨f, E1⟩; cases f <;> rfl
  simp [e2, pu, sl0]
  simp only [ev_sSeq] at L1 L2 L34 L3
  simp only [L1, L2, Option.bind_some, L3, L34, L5]
theorem laps_ok {n : Nat} (hp : PotOk n pot) (hn : n < 750000000) : ∃ (pot' : D) (w4 w17 w18 : Option D), PotOk (n + 3) pot' ∧ (sFor (iRange 1 (osCons (oE (eK (.int 3))) osNil)) (gN (pu sl0 (pinOf [true])) 4) (sSeq (sAsg (eF F__law_take (osCons (oV 0) (osCons (oE (eCa lenD (osCons (oV 5) osNil))) osNil))) (gN (pu sl0 (pinOf [true])) 17)) (sSeq (sIf (bAnd (bE (eOp2 neD (oV 8) (oE (eLst osNil)))) (bE (eOp2 neD (oE (eF F_shows_fairest (osCons (oV 2) (osCons (oV 1) (osCons (oV 3) (osCons (oE (eTup (osCons (oE (eCa (mmD minI) (osCons (oV 8) osNil))) (osCons (oE (eOp2 ixD2 (oV 5) (oV 17))) osNil)))) osNil)))))) (oE (eOp2 eqD (oE (eOp2 ixD2 (oV 7) (oV 17))) (oE (eCa (mmD minI) (osCons (oV 8) osNil)))))))) (sRet (eK (.bl false))) sNil) (sSeq (sIf (bE (eOp2 neD (oE (eCa reprD (osCons (oE (eF F_given_in (osCons (oV 2) (osCons (oV 1) (osCons (oV 3) (osCons (oE (eOp2 ixD2 (oV 5) (oV 17))) osNil)))))) osNil))) (oE (eCa reprD (osCons (oE (eOp2 ixD2 (oV 6) (oV 17))) osNil))))) (sRet (eK (.bl false))) sNil) (sSeq (sAsg (eF F_longest_wait (osCons (oV 2) (osCons (oV 1) (osCons (oV 3) (osCons (oE (eOp2 ixD2 (oV 5) (oV 17))) osNil))))) (gN (pu sl0 (pinOf [true])) 18)) (sSeq (sIf (bE (eOp2 neD (oE (eCa reprD (osCons (oE (eIf (bE (eOp2 isND (oV 18) (oE (eK .non)))) (eK .non) (eOp2 ixD2 (oV 18) (oE (eK (.int 0)))))) osNil))) (oE (eCa reprD (osCons (oE (eOp2 ixD2 (oV 7) (oV 17))) osNil))))) (sRet (eK (.bl false))) sNil) (sIf (bAnd (bE (eOp2 neD (oV 8) (oE (eLst osNil)))) (bE (eOp2 isNotBD (oE (eF F_shows_fairest (osCons (oV 2) (osCons (oV 1) (osCons (oV 3) (osCons (oE (eTup (osCons (oE (eOp2 addD (oE (eCa (mmD minI) (osCons (oV 8) osNil))) (oE (eK (.int 1))))) (osCons (oE (eOp2 ixD2 (oV 5) (oV 17))) osNil)))) osNil)))))) (oE (eK (.bl false)))))) (sRet (eK (.bl false))) sNil))))))) (mE c old hs pot v4 v10 v11 v12 v13 v14 v15 v16 v17 v18 v19 v20 v21 v22) = some (.nx, mE c old hs pot' w4 v10 v11 v12 v13 v14 v15 v16 w17 w18 v19 v20 v21 v22) := by
  have q : Wp ((sFor (iRange 1 (osCons (oE (eK (.int 3))) osNil)) (gN (pu sl0 (pinOf [true])) 4) (sSeq (sAsg (eF F__law_take (osCons (oV 0) (osCons (oE (eCa lenD (osCons (oV 5) osNil))) osNil))) (gN (pu sl0 (pinOf [true])) 17)) (sSeq (sIf (bAnd (bE (eOp2 neD (oV 8) (oE (eLst osNil)))) (bE (eOp2 neD (oE (eF F_shows_fairest (osCons (oV 2) (osCons (oV 1) (osCons (oV 3) (osCons (oE (eTup (osCons (oE (eCa (mmD minI) (osCons (oV 8) osNil))) (osCons (oE (eOp2 ixD2 (oV 5) (oV 17))) osNil)))) osNil)))))) (oE (eOp2 eqD (oE (eOp2 ixD2 (oV 7) (oV 17))) (oE (eCa (mmD minI) (osCons (oV 8) osNil)))))))) (sRet (eK (.bl false))) sNil) (sSeq (sIf (bE (eOp2 neD (oE (eCa reprD (osCons (oE (eF F_given_in (osCons (oV 2) (osCons (oV 1) (osCons (oV 3) (osCons (oE (eOp2 ixD2 (oV 5) (oV 17))) osNil)))))) osNil))) (oE (eCa reprD (osCons (oE (eOp2 ixD2 (oV 6) (oV 17))) osNil))))) (sRet (eK (.bl false))) sNil) (sSeq (sAsg (eF F_longest_wait (osCons (oV 2) (osCons (oV 1) (osCons (oV 3) (osCons (oE (eOp2 ixD2 (oV 5) (oV 17))) osNil))))) (gN (pu sl0 (pinOf [true])) 18)) (sSeq (sIf (bE (eOp2 neD (oE (eCa reprD (osCons (oE (eIf (bE (eOp2 isND (oV 18) (oE (eK .non)))) (eK .non) (eOp2 ixD2 (oV 18) (oE (eK (.int 0)))))) osNil))) (oE (eCa reprD (osCons (oE (eOp2 ixD2 (oV 7) (oV 17))) osNil))))) (sRet (eK (.bl false))) sNil) (sIf (bAnd (bE (eOp2 neD (oV 8) (oE (eLst osNil)))) (bE (eOp2 isNotBD (oE (eF F_shows_fairest (osCons (oV 2) (osCons (oV 1) (osCons (oV 3) (osCons (oE (eTup (osCons (oE (eOp2 addD (oE (eCa (mmD minI) (osCons (oV 8) osNil))) (oE (eK (.int 1))))) (osCons (oE (eOp2 ixD2 (oV 5) (oV 17))) osNil)))) osNil)))))) (oE (eK (.bl false)))))) (sRet (eK (.bl false))) sNil))))))) (mE c old hs pot v4 v10 v11 v12 v13 v14 v15 v16 v17 v18 v19 v20 v21 v22)) fun k E => k = .nx ∧ ∃ (pot' : D) (w4 w17 w18 : Option D), PotOk (n + 3) pot' ∧ E = mE c old hs pot' w4 v10 v11 v12 v13 v14 v15 v16 w17 w18 v19 v20 v21 v22 := by
    refine wp_for_range (tk := .own (.int 3)) 3 (fun j E => ∃ (pot' : D) (w4 w17 w18 : Option D), PotOk (n + j) pot' ∧ E = mE c old hs pot' w4 v10 v11 v12 v13 v14 v15 v16 w17 w18 v19 v20 v21 v22) rfl rfl (by decide) ⟨pot, v4, v17, v18, hp, rfl⟩ (fun j E hj h => ?_) (fun E h => ⟨rfl, h⟩)
    obtain ⟨p1, w4, w17, w18, hp1, rfl⟩ := h
    obtain ⟨p2, u17, u18, hp2, e⟩ := lap_ok t p1 (some (.int j)) v10 v11 v12 v13 v14 v15 v16 w17 w18 v19 v20 v21 v22 hp1 (by omega)
    refine ⟨mE c old hs p1 (some (.int j)) v10 v11 v12 v13 v14 v15 v16 w17 w18 v19 v20 v21 v22, by simp [pu, sl0], Wp.of e ⟨p2, _, _, _, hp2.mono (by omega), rfl⟩⟩
  obtain ⟨k, E, e, rfl, p2, w4, w17, w18, hp2, rfl⟩ := q
  exact ⟨p2, w4, w17, w18, hp2, e⟩
end
end K59
end
section
namespace K59
open PySem PySem.Spec L2 Dn
theorem erase_map {α β : Type} (f : α → β) : ∀ (l : List α) (j : Nat), (l.map f).eraseIdx j = (l.eraseIdx j).map f
  | [], _ => by simp
  | a :: l, 0 => by simp
  | a :: l, j + 1 => by simp [erase_map f l j]
theorem F_some_h {n : Nat} {pot : D} (hp : PotOk n pot) (hn : n < 800000000) (m : Nat) (hm : m ≤ 4) : ∃ (ks : List Nat) (pot' : D), ks.length ≤ 2 ∧ (∀ k ∈ ks, k < m) ∧ PotOk (n + 2) pot' ∧ F__law_some [pot, pR (List.range m), .int 2] [true, false, false] = some (lN ks, [some pot', none, none]) := by
  have q : ∀ Q : D → Dn.Env → Prop, (∀ (ks : List Nat) (pot' : D), ks.length ≤ 2 → (∀ k ∈ ks, k < m) → PotOk (n + 2) pot' → Q (lN ks) [some pot', none, none]) → Wp (F__law_some [pot, pR (List.range m), .int 2] [true, false, false]) Q := fun Q hQ => by
    refine mkF_of rfl rfl ?_
    have ls : lstOfD [pR (List.range m)] = some (lN (List.range m)) := by simp [lstOfD, pR, lN, D.seq?, encN.imms (List.range m)]
    have R : Wp ((sWhile (bAnd (bE (eOp2 neD (oV 3) (oE (eLst osNil)))) (bE (eOp2 ltD (oE (eCa lenD (osCons (oV 4) osNil))) (oV 2)))) (sExp (eMut1 4 appF (eMut1 3 popF (eF F__law_take (osCons (oV 0) (osCons (oE (eCa lenD (osCons (oV 3) osNil))) osNil)))))) 1000) [some pot, some (pR (List.range m)), some (.int 2), some (lN (List.range m)), some (.lst [])]) fun k E => k = .nx ∧ ∃ (rest ks : List Nat) (pot' : D), ks.length ≤ 2 ∧ (∀ k ∈ ks, k < m) ∧ PotOk (n + 2) pot' ∧ E = [some pot', some (pR (List.range m)), some (.int 2), some (lN rest), some (lN ks)] := by
      refine wp_while (fun k E => ∃ (rest ks : List Nat) (pot' : D), rest.length = k ∧ k ≤ 4 ∧ ks.length ≤ 2 ∧ (∀ k ∈ ks, k < m) ∧ (∀ k ∈ rest, k < m) ∧ PotOk (n + ks.length) pot' ∧ E = [some pot', some (pR (List.range m)), some (.int 2), some (lN rest), some (lN ks)]) (fun k E h => ?_) 1000 m _ (by omega) ⟨List.range m, [], pot, by simp, hm, by simp, by simp, by simp, hp, rfl⟩
      obtain ⟨rest, ks, p1, h1, h2, h3, h4, h5, h6, rfl⟩ := h
      have S : (lN rest).shp = true := encN.lstShp rest
      have E : (lN rest).eqv (.lst []) = decide (rest = []) := encN.lstEq rest []
      by_cases c1 : rest = []
      · subst c1
        have z : (D.lst []).eqv (.lst []) = true := by rw [eqv_l0]; rfl
        refine Wp.of (a := false) (E := [some p1, some (pR (List.range m)), some (.int 2), some (lN []), some (lN ks)]) (by simp [lN, z]) ?_
        rw [if_neg Bool.false_ne_true]
        exact ⟨rfl, [], ks, p1, h3, h4, h6.mono (by omega), rfl⟩
      · by_cases c2 : ks.length < 2
        · have c3 : (ks.length : Int) < 2 := by omega
          obtain ⟨j, p2, hj, hp2, e2⟩ := tk_ev (pot := p1) (pot' := p1) (W := [some (pR (List.range m)), some (.int 2), some (lN rest), some (lN ks)]) (u := rest.length) (ux := eCa lenD (osCons (oV 3) osNil)) h6 (by omega) (List.length_pos_iff.mpr c1) (by omega) (by simp)
          generalize eF F__law_take (osCons (oV 0) (osCons (oE (eCa lenD (osCons (oV 3) osNil))) osNil)) = X0 at e2 ⊢
          have g : rest[j]? = some rest[j] := List.getElem?_eq_getElem hj
          have P : popF (rest.map fun k : Nat => D.int k) (.int (j : Int)) = some (.int (rest[j] : Nat), (rest.eraseIdx j).map fun k : Nat => D.int k) := by
            show (if (0 : Int) ≤ j then _ else none) = _
            rw [if_pos (Int.natCast_nonneg j), Int.toNat_natCast, List.getElem?_map, g]
            show (if _ ∧ _ then _ else none) = _
            rw [if_pos ⟨rfl, by rw [List.length_map]; omega⟩, erase_map]
          have A := op_app (xs := ks.map fun k : Nat => D.int k) (.int (rest[j] : Nat)) (by rw [List.length_map]; omega)
          refine Wp.of (a := true) (E := [some p1, some (pR (List.range m)), some (.int 2), some (lN rest), some (lN ks)]) (by simp [S, E, c1, c3]) ?_
          rw [if_pos rfl]
          refine Wp.of (a := .nx) (E := [some p2, some (pR (List.range m)), some (.int 2), some (lN (rest.eraseIdx j)), some (lN (ks ++ [rest[j]]))]) (by simp [e2, P, A]) ?_
          refine ⟨(rest.eraseIdx j).length, by rw [List.length_eraseIdx]; split <;> omega, rest.eraseIdx j, ks ++ [rest[j]], p2, rfl, by rw [List.length_eraseIdx]; split <;> omega, by simp; omega, fun k hk => ?_, fun k hk => h5 k (List.mem_of_mem_eraseIdx hk), hp2.mono (by simp; omega), rfl⟩
          rcases List.mem_append.mp hk with z | z
          · exact h4 k z
          · rw [List.mem_singleton.mp z]; exact h5 _ (List.getElem_mem hj)
        · have c3 : ¬ (ks.length : Int) < 2 := by omega
          refine Wp.of (a := false) (E := [some p1, some (pR (List.range m)), some (.int 2), some (lN rest), some (lN ks)]) (by simp [S, E, c1, c3]) ?_
          rw [if_neg Bool.false_ne_true]
          exact ⟨rfl, rest, ks, p1, h3, h4, h6.mono (by omega), rfl⟩
    unfold B__law_some
    generalize (sWhile (bAnd (bE (eOp2 neD (oV 3) (oE (eLst osNil)))) (bE (eOp2 ltD (oE (eCa lenD (osCons (oV 4) osNil))) (oV 2)))) (sExp (eMut1 4 appF (eMut1 3 popF (eF F__law_take (osCons (oV 0) (osCons (oE (eCa lenD (osCons (oV 3) osNil))) osNil)))))) 1000) = X1 at R ⊢
    simp [ls]
    refine R.imp fun k E h => ?_
    obtain ⟨rfl, rest, ks, p1, h1, h2, h3, rfl⟩ := h
    have im := h3.imm
    refine Wp.of (a := .rt (lN ks)) (E := [some p1, some (pR (List.range m)), some (.int 2), some (lN rest), none]) (by simp) ?_
    have := hQ ks p1 h1 h2 h3
    simpa [outs] using this
  obtain ⟨d, o, e, ks, p1, h1, h2, h3, rfl, rfl⟩ := q (fun d o => ∃ (ks : List Nat) (pot' : D), ks.length ≤ 2 ∧ (∀ k ∈ ks, k < m) ∧ PotOk (n + 2) pot' ∧ d = lN ks ∧ o = [some pot', none, none]) fun ks p1 h1 h2 h3 => ⟨ks, p1, h1, h2, h3, rfl, rfl⟩
  exact ⟨ks, p1, h1, h2, h3, e⟩
end K59
end
section
namespace K59
open PySem PySem.Spec L2 Dn
theorem nn : (D.str "none").eqv (.str "none") = true := by rw [eqv_str]; decide +kernel
theorem rr : (D.str "rank").eqv (.str "rank") = true := by rw [eqv_str]; decide +kernel
theorem nr : (D.str "none").eqv (.str "rank") = false := by rw [eqv_str]; decide +kernel
theorem rn : (D.str "rank").eqv (.str "none") = false := by rw [eqv_str]; decide +kernel
section
variable {c : Nat} {old : List Nat} {hs : List Heir} (t : Town c old hs)
abbrev fst1 (c : Nat) (old : List Nat) (hs : List Heir) (i : Nat) : Option Int := least ((yrs c old hs i).map (·.1))
theorem fin_nil (c : Nat) (old : List Nat) (hs : List Heir) (i y : Nat) : fin c old hs i y = [] ↔ ∀ m, fst1 c old hs i = some m → ¬ m ≤ (y : Int) := by
  by_cases h : yrs c old hs i = []
  · simp [fin, fst1, h, least]
  · obtain ⟨m, l, hm, hmin, _⟩ := least_min (L := (yrs c old hs i).map (·.1)) (by simpa using h)
    have e : (∀ m, fst1 c old hs i = some m → ¬ m ≤ (y : Int)) ↔ ¬ m ≤ (y : Int) := ⟨fun z => z m l, fun z m' e => by
      have : some m = some m' := l.symm.trans e
      cases this
      exact z⟩
    rw [e]
    unfold fin
    rw [List.map_eq_nil_iff, List.filter_eq_nil_iff]
    constructor
    · intro z q
      obtain ⟨p, hp, e⟩ := List.mem_map.mp hm
      have := z p hp
      simp only [decide_eq_true_eq] at this
      exact this (by rw [e]; exact q)
    · intro z p hp q
      have := hmin p.1 (List.mem_map_of_mem hp)
      have q := of_decide_eq_true q
      omega
include t
theorem fin_mem {i y : Nat} {r : List Nat} {R : List (List Nat)} (h : fin c old hs i y = r :: R) : Rank hs.length r ∧ ∃ z, gv c old hs r i = some z ∧ z ≤ y := by
  have : r ∈ fin c old hs i y := by rw [h]; exact List.mem_cons_self ..
  unfold fin at this
  obtain ⟨p, hp, rfl⟩ := List.mem_map.mp this
  obtain ⟨hp, q⟩ := List.mem_filter.mp hp
  obtain ⟨a, b⟩ := mem_yrs.mp hp
  have q := of_decide_eq_true q
  refine ⟨rank_of_mem t.hl a, ?_⟩
  cases g : gv c old hs p.2 i with
  | none => rw [g] at b; cases b
  | some z =>
    rw [g] at b
    have b : ((z : Nat) : Int) = p.1 := Option.some.inj b
    exact ⟨z, rfl, by omega⟩
variable (pot : D) (v4 v11 v12 v13 v14 v16 v17 v18 v19 v21 v15 v20 v22 : Option D) {i y : Nat} (hi : i < hs.length) (hy : y ≤ 60)
include hi hy
theorem y_0 : (sAsg (eF F_rank_told (osCons (oV 2) (osCons (oV 1) (osCons (oV 3) (osCons (oV 10) (osCons (oE (eCa intOfD (osCons (oV 15) osNil))) osNil)))))) (gN (pu sl0 (pu sl0 (pinOf [true]))) 22)) (mE c old hs pot v4 (some (.int i)) v11 v12 v13 v14 (some (.int y)) v16 v17 v18 v19 v20 v21 v22) = some (.nx, mE c old hs pot v4 (some (.int i)) v11 v12 v13 v14 (some (.int y)) v16 v17 v18 v19 v20 v21 (some (toldD (fin c old hs i y)))) := by
  have F := F_rank_told_h t hi hy
  simp [F, ioOf, ioSl, apart, putOuts, pu, sl0]
theorem y_1 : (sIf (bOr (bE (eOp2 neD (oE (eOp2 eqD (oE (eOp2 ixD2 (oV 22) (oE (eK (.int 0))))) (oE (eK (.str "rank"))))) (oE (eAnd (eOp2 isNotND (oV 20) (oE (eK .non))) (eOp2 leD (oV 20) (oV 15)))))) (bE (eOp2 isNotBD (oE (eF F_shows_rank (osCons (oV 2) (osCons (oV 1) (osCons (oV 3) (osCons (oV 10) (osCons (oE (eCa intOfD (osCons (oV 15) osNil))) (osCons (oV 22) osNil)))))))) (oE (eK (.bl true)))))) (sRet (eK (.bl false))) sNil) (mE c old hs pot v4 (some (.int i)) v11 v12 v13 v14 (some (.int y)) v16 v17 v18 v19 (some (oI (fst1 c old hs i))) v21 (some (toldD (fin c old hs i y)))) = some (.nx, mE c old hs pot v4 (some (.int i)) v11 v12 v13 v14 (some (.int y)) v16 v17 v18 v19 (some (oI (fst1 c old hs i))) v21 (some (toldD (fin c old hs i y)))) := by
  have N := fin_nil c old hs i y
  cases h : fin c old hs i y with
  | nil =>
    have F := F_shows_none_h t hi hy
    rw [h] at F
    have N := N.mp h
    simp only [toldD]
    generalize fst1 c old hs i = o at *
    cases o with
    | none => simp [-eqv_str, F, ioOf, ioSl, apart, putOuts, shp_none, shp_rank, nr, oI]
    | some m =>
      have N := N m rfl
      simp [-eqv_str, F, ioOf, ioSl, apart, putOuts, shp_none, shp_rank, nr, oI, N]
  | cons r R =>
    obtain ⟨rk, ex⟩ := fin_mem t h
    have F := F_shows_rank_h t hi hy rk
    have nz : ¬ fin c old hs i y = [] := by rw [h]; exact fun z => by cases z
    have N := mt N.mpr nz
    simp [ex] at F
    simp only [toldD]
    generalize fst1 c old hs i = o at *
    cases o with
    | none => exact absurd (fun m e => by cases e) N
    | some m =>
      have N : m ≤ (y : Int) := by
        by_cases z : m ≤ (y : Int)
        · exact z
        · exact absurd (fun m' e => by cases e; exact z) N
      simp [-eqv_str, F, ioOf, ioSl, apart, putOuts, shp_none, shp_rank, rr, oI, N]
theorem y_4 : (sIf (bE (eOp2 neD (oE (eF F_shows_rank (osCons (oV 2) (osCons (oV 1) (osCons (oV 3) (osCons (oV 10) (osCons (oE (eCa intOfD (osCons (oV 15) osNil))) (osCons (oE (eTup (osCons (oE (eK (.str "none"))) osNil))) osNil)))))))) (oE (eOp2 eqD (oE (eOp2 ixD2 (oV 22) (oE (eK (.int 0))))) (oE (eK (.str "none"))))))) (sRet (eK (.bl false))) sNil) (mE c old hs pot v4 (some (.int i)) v11 v12 v13 v14 (some (.int y)) v16 v17 v18 v19 v20 v21 (some (toldD (fin c old hs i y)))) = some (.nx, mE c old hs pot v4 (some (.int i)) v11 v12 v13 v14 (some (.int y)) v16 v17 v18 v19 v20 v21 (some (toldD (fin c old hs i y)))) := by
  have F := F_shows_none_h t hi hy
  cases h : fin c old hs i y with
  | nil =>
    rw [h] at F
    simp [-eqv_str, toldD, F, ioOf, ioSl, apart, putOuts, shp_none, shp_rank, nn]
  | cons r R =>
    rw [h] at F
    simp [-eqv_str, toldD, F, ioOf, ioSl, apart, putOuts, shp_none, shp_rank, rn]
theorem y_3 {q : Nat} {r : List Nat} (hq : (ranks hs.length)[q]? = some r) : (sIf (bE (eOp2 neD (oE (eF F_shows_rank (osCons (oV 2) (osCons (oV 1) (osCons (oV 3) (osCons (oV 10) (osCons (oE (eCa intOfD (osCons (oV 15) osNil))) (osCons (oE (eTup (osCons (oE (eK (.str "rank"))) (osCons (oE (eOp2 ixD2 (oV 5) (oV 17))) osNil)))) osNil)))))))) (oE (eAnd (eOp2 isNotND (oE (eOp2 ixD2 (oE (eOp2 ixD2 (oV 6) (oV 17))) (oV 10))) (oE (eK .non))) (eOp2 leD (oE (eOp2 ixD2 (oE (eOp2 ixD2 (oV 6) (oV 17))) (oV 10))) (oV 15)))))) (sRet (eK (.bl false))) sNil) (mE c old hs pot v4 (some (.int i)) v11 v12 v13 v14 (some (.int y)) v16 (some (.int q)) v18 v19 v20 v21 v22) = some (.nx, mE c old hs pot v4 (some (.int i)) v11 v12 v13 v14 (some (.int y)) v16 (some (.int q)) v18 v19 v20 v21 v22) := by
  have F := F_shows_rank_h t hi hy (rank_of_mem t.hl (List.mem_of_getElem? hq))
  have X := rL_ix _ hq
  have G := runL_ix c old hs hq
  have I := gT_ix (giv c old hs r) i
  rw [giv_ix c old hs r hi] at I
  cases g : gv c old hs r i with
  | none =>
    rw [g] at F I
    simp at F
    simp [X, G, I, F, ioOf, ioSl, apart, putOuts, oN]
  | some z =>
    rw [g] at F I
    simp at F
    simp [X, G, I, F, ioOf, ioSl, apart, putOuts, oN]
theorem y_ok {n : Nat} (hp : PotOk n pot) (hn : n < 800000000) : ∃ (pot' : D) (w17 w22 : Option D), PotOk (n + 1) pot' ∧ (sSeq (sAsg (eF F_rank_told (osCons (oV 2) (osCons (oV 1) (osCons (oV 3) (osCons (oV 10) (osCons (oE (eCa intOfD (osCons (oV 15) osNil))) osNil)))))) (gN (pu sl0 (pu sl0 (pinOf [true]))) 22)) (sSeq (sIf (bOr (bE (eOp2 neD (oE (eOp2 eqD (oE (eOp2 ixD2 (oV 22) (oE (eK (.int 0))))) (oE (eK (.str "rank"))))) (oE (eAnd (eOp2 isNotND (oV 20) (oE (eK .non))) (eOp2 leD (oV 20) (oV 15)))))) (bE (eOp2 isNotBD (oE (eF F_shows_rank (osCons (oV 2) (osCons (oV 1) (osCons (oV 3) (osCons (oV 10) (osCons (oE (eCa intOfD (osCons (oV 15) osNil))) (osCons (oV 22) osNil)))))))) (oE (eK (.bl true)))))) (sRet (eK (.bl false))) sNil) (sSeq (sAsg (eF F__law_take (osCons (oV 0) (osCons (oE (eCa lenD (osCons (oV 5) osNil))) osNil))) (gN (pu sl0 (pu sl0 (pinOf [true]))) 17)) (sSeq (sIf (bE (eOp2 neD (oE (eF F_shows_rank (osCons (oV 2) (osCons (oV 1) (osCons (oV 3) (osCons (oV 10) (osCons (oE (eCa intOfD (osCons (oV 15) osNil))) (osCons (oE (eTup (osCons (oE (eK (.str "rank"))) (osCons (oE (eOp2 ixD2 (oV 5) (oV 17))) osNil)))) osNil)))))))) (oE (eAnd (eOp2 isNotND (oE (eOp2 ixD2 (oE (eOp2 ixD2 (oV 6) (oV 17))) (oV 10))) (oE (eK .non))) (eOp2 leD (oE (eOp2 ixD2 (oE (eOp2 ixD2 (oV 6) (oV 17))) (oV 10))) (oV 15)))))) (sRet (eK (.bl false))) sNil) (sIf (bE (eOp2 neD (oE (eF F_shows_rank (osCons (oV 2) (osCons (oV 1) (osCons (oV 3) (osCons (oV 10) (osCons (oE (eCa intOfD (osCons (oV 15) osNil))) (osCons (oE (eTup (osCons (oE (eK (.str "none"))) osNil))) osNil)))))))) (oE (eOp2 eqD (oE (eOp2 ixD2 (oV 22) (oE (eK (.int 0))))) (oE (eK (.str "none"))))))) (sRet (eK (.bl false))) sNil))))) (mE c old hs pot v4 (some (.int i)) v11 v12 v13 v14 (some (.int y)) v16 v17 v18 v19 (some (oI (fst1 c old hs i))) v21 v22) = some (.nx, mE c old hs pot' v4 (some (.int i)) v11 v12 v13 v14 (some (.int y)) v16 w17 v18 v19 (some (oI (fst1 c old hs i))) v21 w22) := by
  have sm : (ranks hs.length).length ≤ 256 := rows_small t.hl _ t.hl
  have ps : 0 < (ranks hs.length).length := List.length_pos_iff.mpr (ranks_ne t.hl)
  obtain ⟨k, p2, hk, hp2, e2⟩ := tk_ev (pot := pot) (pot' := pot) (W := (mE c old hs pot v4 (some (.int i)) v11 v12 v13 v14 (some (.int y)) v16 v17 v18 v19 (some (oI (fst1 c old hs i))) v21 (some (toldD (fin c old hs i y)))).tail) (u := (ranks hs.length).length) (ux := eCa lenD (osCons (oV 5) osNil)) hp (by omega) ps (by omega) (by simp [rL])
  have hq : (ranks hs.length)[k]? = some (ranks hs.length)[k] := List.getElem?_eq_getElem hk
  have L0 := y_0 t pot v4 v11 v12 v13 v14 v16 v17 v18 v19 v21 (some (oI (fst1 c old hs i))) v22 hi hy
  have L1 := y_1 t pot v4 v11 v12 v13 v14 v16 v17 v18 v19 v21 hi hy
  have L3 := y_3 t p2 v4 v11 v12 v13 v14 v16 v18 v19 v21 (some (oI (fst1 c old hs i))) (some (toldD (fin c old hs i y))) hi hy hq
  have L4 := y_4 t p2 v4 v11 v12 v13 v14 v16 (some (.int k)) v18 v19 v21 (some (oI (fst1 c old hs i))) hi hy
  refine ⟨p2, some (.int k), some (toldD (fin c old hs i y)), hp2, ?_⟩
  simp only [List.tail_cons] at e2
  generalize eF F__law_take (osCons (oV 0) (osCons (oE (eCa lenD (osCons (oV 5) osNil))) osNil)) = X0 at e2 ⊢
  generalize (sAsg (eF F_rank_told (osCons (oV 2) (osCons (oV 1) (osCons (oV 3) (osCons (oV 10) (osCons (oE (eCa intOfD (osCons (oV 15) osNil))) osNil)))))) (gN (pu sl0 (pu sl0 (pinOf [true]))) 22)) = X1 at L0 ⊢
  generalize (sIf (bOr (bE (eOp2 neD (oE (eOp2 eqD (oE (eOp2 ixD2 (oV 22) (oE (eK (.int 0))))) (oE (eK (.str "rank"))))) (oE (eAnd (eOp2 isNotND (oV 20) (oE (eK .non))) (eOp2 leD (oV 20) (oV 15)))))) (bE (eOp2 isNotBD (oE (eF F_shows_rank (osCons (oV 2) (osCons (oV 1) (osCons (oV 3) (osCons (oV 10) (osCons (oE (eCa intOfD (osCons (oV 15) osNil))) (osCons (oV 22) osNil)))))))) (oE (eK (.bl true)))))) (sRet (eK (.bl false))) sNil) = X2 at L1 ⊢
  generalize (sIf (bE (eOp2 neD (oE (eF F_shows_rank (osCons (oV 2) (osCons (oV 1) (osCons (oV 3) (osCons (oV 10) (osCons (oE (eCa intOfD (osCons (oV 15) osNil))) (osCons (oE (eTup (osCons (oE (eK (.str "rank"))) (osCons (oE (eOp2 ixD2 (oV 5) (oV 17))) osNil)))) osNil)))))))) (oE (eAnd (eOp2 isNotND (oE (eOp2 ixD2 (oE (eOp2 ixD2 (oV 6) (oV 17))) (oV 10))) (oE (eK .non))) (eOp2 leD (oE (eOp2 ixD2 (oE (eOp2 ixD2 (oV 6) (oV 17))) (oV 10))) (oV 15)))))) (sRet (eK (.bl false))) sNil) = X3 at L3 ⊢
  generalize (sIf (bE (eOp2 neD (oE (eF F_shows_rank (osCons (oV 2) (osCons (oV 1) (osCons (oV 3) (osCons (oV 10) (osCons (oE (eCa intOfD (osCons (oV 15) osNil))) (osCons (oE (eTup (osCons (oE (eK (.str "none"))) osNil))) osNil)))))))) (oE (eOp2 eqD (oE (eOp2 ixD2 (oV 22) (oE (eK (.int 0))))) (oE (eK (.str "none"))))))) (sRet (eK (.bl false))) sNil) = X4 at L4 ⊢
  simp only [ev_sSeq, ev_sAsg, L0, L1, e2, Option.bind_some]
  simp [pu, sl0]
  simp only [L3, L4, Option.bind_some]
end
end K59
end
section
namespace K59
open PySem PySem.Spec L2 Dn
theorem sets3 (a b c : Int) : setSortLD (.lst [.int a, .int b, .int c]) = some (.lst ((srtS [a, b, c]).map D.int)) := (op_setSortL [a, b, c]).trans (if_pos (by simp))
section
variable {c : Nat} {old : List Nat} {hs : List Heir} (t : Town c old hs)
abbrev smL (c : Nat) (old : List Nat) (hs : List Heir) (i : Nat) : D := .lst (((yrs c old hs i).map (·.1)).map D.int)
include t
variable (pot : D) (v4 v11 v12 v13 v14 v15 v16 v17 v18 v19 v20 v21 v22 : Option D) {i : Nat} (hi : i < hs.length)
include hi
theorem b_0c : (eComp (iSeq (oV 6)) [12] (gN (po [12]) 12) (bE (eOp2 isNotND (oE (eOp2 ixD2 (oV 12) (oV 10))) (oE (eK .non)))) (eOp2 ixD2 (oV 12) (oV 10))) (mE c old hs pot v4 (some (.int i)) v11 v12 v13 v14 v15 v16 v17 v18 v19 v20 v21 v22) = some (smL c old hs i, mE c old hs pot v4 (some (.int i)) v11 v12 v13 v14 v15 v16 v17 v18 v19 v20 v21 v22) := by
  have sm : (ranks hs.length).length ≤ 256 := rows_small t.hl _ t.hl
  refine Wp.eq (wp_comp_seq (tk := .slot 6) (s := .sl 6) (ranks hs.length) (fun r => gT (giv c old hs r)) (fun r => (gv c old hs r i).isSome) (fun r => oN (gv c old hs r i)) rfl (by simp [scOf, runL]) rfl rfl (by omega) (fun r _ => gT_imm _) (fun r hr => ?_) ?_)
  · have I := gT_ix (giv c old hs r) i
    rw [giv_ix c old hs r hi] at I
    refine ⟨_, by simp [wipeE, po]; rfl, ?_⟩
    cases g : gv c old hs r i <;> rw [g] at I <;> simp [wipeE, I, oN]
  · have K := known_eq (fun r => (gv c old hs r i).map fun n : Nat => (n : Int)) (ranks hs.length)
    have e : ((ranks hs.length).filter fun r => (gv c old hs r i).isSome).map (fun r => oN (gv c old hs r i)) = (((ranks hs.length).map fun r => (gv c old hs r i).map fun n : Nat => (n : Int)).filter (·.isSome)).map oI := by
      rw [List.filter_map, List.map_map]
      congr 1
      · funext r
        exact oN_oI _
      · congr 1
        funext r
        simp
    rw [e, K]
    simp [wipeE, backE, yrs]
theorem b_1 : (sAsg (eIf (bE (eOp2 neD (oV 19) (oE (eLst osNil)))) (eCa (mmD minI) (osCons (oV 19) osNil)) (eK .non)) (gN (pu sl0 (pinOf [true])) 20)) (mE c old hs pot v4 (some (.int i)) v11 v12 v13 v14 v15 v16 v17 v18 (some (smL c old hs i)) v20 v21 v22) = some (.nx, mE c old hs pot v4 (some (.int i)) v11 v12 v13 v14 v15 v16 v17 v18 (some (smL c old hs i)) (some (oI (fst1 c old hs i))) v21 v22) := by
  unfold smL fst1
  generalize (yrs c old hs i).map (·.1) = L
  have S : (D.lst (L.map D.int)).shp = true := encI.lstShp L
  have E : (D.lst (L.map D.int)).eqv (.lst []) = decide (L = []) := encI.lstEq L []
  by_cases h : L = []
  · subst h
    have z : (D.lst []).eqv (.lst []) = true := by rw [eqv_l0]; rfl
    simp [z, least, oI, pu, sl0]
  · obtain ⟨m, l, _, _, mm⟩ := least_min h
    simp [S, E, h, mm, l, oI, pu, sl0]
omit hi in
theorem fst1_small {m : Int} (h : fst1 c old hs i = some m) : ∃ k : Nat, m = k ∧ k ≤ 60 := by
  by_cases e : yrs c old hs i = []
  · simp [fst1, e, least] at h
  · obtain ⟨m', l, hm, _, _⟩ := least_min (L := (yrs c old hs i).map (·.1)) (by simpa using e)
    have : some m' = some m := l.symm.trans h
    cases this
    obtain ⟨p, hp, rfl⟩ := List.mem_map.mp hm
    have b := (mem_yrs.mp hp).2
    cases g : gv c old hs p.2 i with
    | none => rw [g] at b; cases b
    | some z =>
      rw [g] at b
      have b : ((z : Nat) : Int) = p.1 := Option.some.inj b
      exact ⟨z, b.symm, (gv_le c old hs p.2 g).2⟩
theorem b_2 : (sIf (bE (eOp2 neD (oE (eCa reprD (osCons (oE (eF F_best_first (osCons (oV 2) (osCons (oV 1) (osCons (oV 3) (osCons (oV 10) osNil)))))) osNil))) (oE (eCa reprD (osCons (oV 20) osNil))))) (sRet (eK (.bl false))) sNil) (mE c old hs pot v4 (some (.int i)) v11 v12 v13 v14 v15 v16 v17 v18 v19 (some (oI (fst1 c old hs i))) v21 v22) = some (.nx, mE c old hs pot v4 (some (.int i)) v11 v12 v13 v14 v15 v16 v17 v18 v19 (some (oI (fst1 c old hs i))) v21 v22) := by
  have F := F_best_first_h t hi
  obtain ⟨x, ex, nx⟩ := (rs_oI (o := fst1 c old hs i) (fun m e => by obtain ⟨k, rfl, h⟩ := fst1_small t e; omega))
  unfold fst1 at *
  simp [F, ex, nx, ioOf, ioSl, apart, putOuts]
theorem in_loop {n : Nat} (hp : PotOk n pot) (hn : n < 790000000) : ∃ (pot' : D) (w15 w17 w22 : Option D), PotOk (n + 64) pot' ∧ (sFor (iSeq (oE (eUn setSortLD (oE (eLst (osCons (oE (eK (.int 60))) (osCons (oE (eCa max2D (osCons (oE (eK (.int 0))) (osCons (oE (eOp2 subD (oE (eOrT (eV 20) (eK (.int 0)))) (oE (eK (.int 1))))) osNil)))) (osCons (oE (eOrT (eV 20) (eK (.int 0)))) osNil)))))))) (gN (pu sl0 (pu sl0 (pinOf [true]))) 15) (sSeq (sAsg (eF F_rank_told (osCons (oV 2) (osCons (oV 1) (osCons (oV 3) (osCons (oV 10) (osCons (oE (eCa intOfD (osCons (oV 15) osNil))) osNil)))))) (gN (pu sl0 (pu sl0 (pinOf [true]))) 22)) (sSeq (sIf (bOr (bE (eOp2 neD (oE (eOp2 eqD (oE (eOp2 ixD2 (oV 22) (oE (eK (.int 0))))) (oE (eK (.str "rank"))))) (oE (eAnd (eOp2 isNotND (oV 20) (oE (eK .non))) (eOp2 leD (oV 20) (oV 15)))))) (bE (eOp2 isNotBD (oE (eF F_shows_rank (osCons (oV 2) (osCons (oV 1) (osCons (oV 3) (osCons (oV 10) (osCons (oE (eCa intOfD (osCons (oV 15) osNil))) (osCons (oV 22) osNil)))))))) (oE (eK (.bl true)))))) (sRet (eK (.bl false))) sNil) (sSeq (sAsg (eF F__law_take (osCons (oV 0) (osCons (oE (eCa lenD (osCons (oV 5) osNil))) osNil))) (gN (pu sl0 (pu sl0 (pinOf [true]))) 17)) (sSeq (sIf (bE (eOp2 neD (oE (eF F_shows_rank (osCons (oV 2) (osCons (oV 1) (osCons (oV 3) (osCons (oV 10) (osCons (oE (eCa intOfD (osCons (oV 15) osNil))) (osCons (oE (eTup (osCons (oE (eK (.str "rank"))) (osCons (oE (eOp2 ixD2 (oV 5) (oV 17))) osNil)))) osNil)))))))) (oE (eAnd (eOp2 isNotND (oE (eOp2 ixD2 (oE (eOp2 ixD2 (oV 6) (oV 17))) (oV 10))) (oE (eK .non))) (eOp2 leD (oE (eOp2 ixD2 (oE (eOp2 ixD2 (oV 6) (oV 17))) (oV 10))) (oV 15)))))) (sRet (eK (.bl false))) sNil) (sIf (bE (eOp2 neD (oE (eF F_shows_rank (osCons (oV 2) (osCons (oV 1) (osCons (oV 3) (osCons (oV 10) (osCons (oE (eCa intOfD (osCons (oV 15) osNil))) (osCons (oE (eTup (osCons (oE (eK (.str "none"))) osNil))) osNil)))))))) (oE (eOp2 eqD (oE (eOp2 ixD2 (oV 22) (oE (eK (.int 0))))) (oE (eK (.str "none"))))))) (sRet (eK (.bl false))) sNil)))))) (mE c old hs pot v4 (some (.int i)) v11 v12 v13 v14 v15 v16 v17 v18 v19 (some (oI (fst1 c old hs i))) v21 v22) = some (.nx, mE c old hs pot' v4 (some (.int i)) v11 v12 v13 v14 w15 v16 w17 v18 v19 (some (oI (fst1 c old hs i))) v21 w22) := by
  obtain ⟨ns, hl, hns, ev⟩ : ∃ ns : List Int, ns.length < 64 ∧ (∀ x ∈ ns, ∃ y : Nat, x = y ∧ y ≤ 60) ∧ ((oE (eUn setSortLD (oE (eLst (osCons (oE (eK (.int 60))) (osCons (oE (eCa max2D (osCons (oE (eK (.int 0))) (osCons (oE (eOp2 subD (oE (eOrT (eV 20) (eK (.int 0)))) (oE (eK (.int 1))))) osNil)))) (osCons (oE (eOrT (eV 20) (eK (.int 0)))) osNil)))))))) (mE c old hs pot v4 (some (.int i)) v11 v12 v13 v14 v15 v16 v17 v18 v19 (some (oI (fst1 c old hs i))) v21 v22) = some (.own (.lst (ns.map D.int)), mE c old hs pot v4 (some (.int i)) v11 v12 v13 v14 v15 v16 v17 v18 v19 (some (oI (fst1 c old hs i))) v21 v22) := by
    obtain ⟨k, hk, e⟩ : ∃ k : Nat, k ≤ 60 ∧ (eOrT (eV 20) (eK (.int 0))) (mE c old hs pot v4 (some (.int i)) v11 v12 v13 v14 v15 v16 v17 v18 v19 (some (oI (fst1 c old hs i))) v21 v22) = some (.int k, mE c old hs pot v4 (some (.int i)) v11 v12 v13 v14 v15 v16 v17 v18 v19 (some (oI (fst1 c old hs i))) v21 v22) := by
      cases h : fst1 c old hs i with
      | none => exact ⟨0, by decide, by simp [oI]⟩
      | some m =>
        obtain ⟨k, rfl, hk⟩ := fst1_small t h
        refine ⟨k, hk, ?_⟩
        by_cases z : k = 0
        · subst z; simp [oI]
        · have z2 : ((k : Int) != 0) = true := by simp; exact z
          simp [oI, z2]
    have S := sets3 60 (if (k : Int) - 1 > 0 then (k : Int) - 1 else 0) k
    refine ⟨srtS [60, (if (k : Int) - 1 > 0 then (k : Int) - 1 else 0), k], ?_, fun x hx => ?_, ?_⟩
    · have := (srt_perm (dedup [60, (if (k : Int) - 1 > 0 then (k : Int) - 1 else 0), k])).length_eq
      unfold srtS
      rw [this]
      have : ∀ l : List Int, (dedup l).length ≤ l.length := fun l => by
        induction l with
        | nil => exact Nat.le_refl _
        | cons a l ih =>
          unfold dedup
          split <;> simp <;> omega
      have := this [60, (if (k : Int) - 1 > 0 then (k : Int) - 1 else 0), k]
      simp only [List.length_cons, List.length_nil] at this
      omega
    · unfold srtS at hx
      have := mem_dedup.mp ((srt_perm _).mem_iff.mp hx)
      simp only [List.mem_cons, List.not_mem_nil, or_false] at this
      rcases this with e | e | e
      · exact ⟨60, e, by decide⟩
      · refine ⟨k - 1, ?_, by omega⟩
        rw [e]; split <;> omega
      · exact ⟨k, e, hk⟩
    · generalize eOrT (eV 20) (eK (.int 0)) = X0 at e ⊢
      simp only [ev_oE, ev_eUn, ev_eLst, ev_osCons, ev_eK, ev_eCa, ev_eOp2, ev_osNil, e, Option.map_some, Option.bind_some, ev_rd_own, ev_rds_cons, ev_rds_nil, op_sub_ii, op_max2, ev_owns_own, ev_owns_nil, List.length_cons, List.length_nil]
      rw [if_pos (by decide)]
      simp only [Option.map_some, Option.bind_some, ev_rd_own, S]
  have q : Wp ((sFor (iSeq (oE (eUn setSortLD (oE (eLst (osCons (oE (eK (.int 60))) (osCons (oE (eCa max2D (osCons (oE (eK (.int 0))) (osCons (oE (eOp2 subD (oE (eOrT (eV 20) (eK (.int 0)))) (oE (eK (.int 1))))) osNil)))) (osCons (oE (eOrT (eV 20) (eK (.int 0)))) osNil)))))))) (gN (pu sl0 (pu sl0 (pinOf [true]))) 15) (sSeq (sAsg (eF F_rank_told (osCons (oV 2) (osCons (oV 1) (osCons (oV 3) (osCons (oV 10) (osCons (oE (eCa intOfD (osCons (oV 15) osNil))) osNil)))))) (gN (pu sl0 (pu sl0 (pinOf [true]))) 22)) (sSeq (sIf (bOr (bE (eOp2 neD (oE (eOp2 eqD (oE (eOp2 ixD2 (oV 22) (oE (eK (.int 0))))) (oE (eK (.str "rank"))))) (oE (eAnd (eOp2 isNotND (oV 20) (oE (eK .non))) (eOp2 leD (oV 20) (oV 15)))))) (bE (eOp2 isNotBD (oE (eF F_shows_rank (osCons (oV 2) (osCons (oV 1) (osCons (oV 3) (osCons (oV 10) (osCons (oE (eCa intOfD (osCons (oV 15) osNil))) (osCons (oV 22) osNil)))))))) (oE (eK (.bl true)))))) (sRet (eK (.bl false))) sNil) (sSeq (sAsg (eF F__law_take (osCons (oV 0) (osCons (oE (eCa lenD (osCons (oV 5) osNil))) osNil))) (gN (pu sl0 (pu sl0 (pinOf [true]))) 17)) (sSeq (sIf (bE (eOp2 neD (oE (eF F_shows_rank (osCons (oV 2) (osCons (oV 1) (osCons (oV 3) (osCons (oV 10) (osCons (oE (eCa intOfD (osCons (oV 15) osNil))) (osCons (oE (eTup (osCons (oE (eK (.str "rank"))) (osCons (oE (eOp2 ixD2 (oV 5) (oV 17))) osNil)))) osNil)))))))) (oE (eAnd (eOp2 isNotND (oE (eOp2 ixD2 (oE (eOp2 ixD2 (oV 6) (oV 17))) (oV 10))) (oE (eK .non))) (eOp2 leD (oE (eOp2 ixD2 (oE (eOp2 ixD2 (oV 6) (oV 17))) (oV 10))) (oV 15)))))) (sRet (eK (.bl false))) sNil) (sIf (bE (eOp2 neD (oE (eF F_shows_rank (osCons (oV 2) (osCons (oV 1) (osCons (oV 3) (osCons (oV 10) (osCons (oE (eCa intOfD (osCons (oV 15) osNil))) (osCons (oE (eTup (osCons (oE (eK (.str "none"))) osNil))) osNil)))))))) (oE (eOp2 eqD (oE (eOp2 ixD2 (oV 22) (oE (eK (.int 0))))) (oE (eK (.str "none"))))))) (sRet (eK (.bl false))) sNil)))))) (mE c old hs pot v4 (some (.int i)) v11 v12 v13 v14 v15 v16 v17 v18 v19 (some (oI (fst1 c old hs i))) v21 v22)) fun k E => k = .nx ∧ ∃ (pot' : D) (w15 w17 w22 : Option D), PotOk (n + 64) pot' ∧ E = mE c old hs pot' v4 (some (.int i)) v11 v12 v13 v14 w15 v16 w17 v18 v19 (some (oI (fst1 c old hs i))) v21 w22 := by
    refine wp_for_seq (s := .own (.lst (ns.map D.int))) ns D.int (fun j E => ∃ (pot' : D) (w15 w17 w22 : Option D), PotOk (n + j) pot' ∧ E = mE c old hs pot' v4 (some (.int i)) v11 v12 v13 v14 w15 v16 w17 v18 v19 (some (oI (fst1 c old hs i))) v21 w22) ev rfl (fun _ _ => rfl) ⟨pot, v15, v17, v22, hp, rfl⟩ (fun j E h => by obtain ⟨_, _, _, _, _, rfl⟩ := h; rfl) (fun j x E hx h => ?_) (fun E h => ?_)
    · obtain ⟨p1, w15, w17, w22, hp1, rfl⟩ := h
      have hj := (List.getElem?_eq_some_iff.mp hx).1
      obtain ⟨y, rfl, hy⟩ := hns x (List.mem_of_getElem? hx)
      obtain ⟨p2, u17, u22, hp2, e⟩ := y_ok t p1 v4 v11 v12 v13 v14 v16 w17 v18 v19 v21 w22 hi hy hp1 (by omega)
      refine ⟨mE c old hs p1 v4 (some (.int i)) v11 v12 v13 v14 (some (.int y)) v16 w17 v18 v19 (some (oI (fst1 c old hs i))) v21 w22, by simp [pu, sl0], Wp.of e ⟨p2, _, _, _, hp2.mono (by omega), rfl⟩⟩
    · obtain ⟨p1, w15, w17, w22, hp1, rfl⟩ := h
      exact ⟨rfl, p1, w15, w17, w22, hp1.mono (by omega), rfl⟩
  obtain ⟨k, E, e, rfl, p2, w15, w17, w22, hp2, rfl⟩ := q
  exact ⟨p2, w15, w17, w22, hp2, e⟩
theorem heir_ok {n : Nat} (hp : PotOk n pot) (hn : n < 790000000) : ∃ (pot' : D) (w15 w17 w19 w20 w22 : Option D), PotOk (n + 64) pot' ∧ (sSeq (sAsg (eComp (iSeq (oV 6)) [12] (gN (po [12]) 12) (bE (eOp2 isNotND (oE (eOp2 ixD2 (oV 12) (oV 10))) (oE (eK .non)))) (eOp2 ixD2 (oV 12) (oV 10))) (gN (pu sl0 (pinOf [true])) 19)) (sSeq (sAsg (eIf (bE (eOp2 neD (oV 19) (oE (eLst osNil)))) (eCa (mmD minI) (osCons (oV 19) osNil)) (eK .non)) (gN (pu sl0 (pinOf [true])) 20)) (sSeq (sIf (bE (eOp2 neD (oE (eCa reprD (osCons (oE (eF F_best_first (osCons (oV 2) (osCons (oV 1) (osCons (oV 3) (osCons (oV 10) osNil)))))) osNil))) (oE (eCa reprD (osCons (oV 20) osNil))))) (sRet (eK (.bl false))) sNil) (sFor (iSeq (oE (eUn setSortLD (oE (eLst (osCons (oE (eK (.int 60))) (osCons (oE (eCa max2D (osCons (oE (eK (.int 0))) (osCons (oE (eOp2 subD (oE (eOrT (eV 20) (eK (.int 0)))) (oE (eK (.int 1))))) osNil)))) (osCons (oE (eOrT (eV 20) (eK (.int 0)))) osNil)))))))) (gN (pu sl0 (pu sl0 (pinOf [true]))) 15) (sSeq (sAsg (eF F_rank_told (osCons (oV 2) (osCons (oV 1) (osCons (oV 3) (osCons (oV 10) (osCons (oE (eCa intOfD (osCons (oV 15) osNil))) osNil)))))) (gN (pu sl0 (pu sl0 (pinOf [true]))) 22)) (sSeq (sIf (bOr (bE (eOp2 neD (oE (eOp2 eqD (oE (eOp2 ixD2 (oV 22) (oE (eK (.int 0))))) (oE (eK (.str "rank"))))) (oE (eAnd (eOp2 isNotND (oV 20) (oE (eK .non))) (eOp2 leD (oV 20) (oV 15)))))) (bE (eOp2 isNotBD (oE (eF F_shows_rank (osCons (oV 2) (osCons (oV 1) (osCons (oV 3) (osCons (oV 10) (osCons (oE (eCa intOfD (osCons (oV 15) osNil))) (osCons (oV 22) osNil)))))))) (oE (eK (.bl true)))))) (sRet (eK (.bl false))) sNil) (sSeq (sAsg (eF F__law_take (osCons (oV 0) (osCons (oE (eCa lenD (osCons (oV 5) osNil))) osNil))) (gN (pu sl0 (pu sl0 (pinOf [true]))) 17)) (sSeq (sIf (bE (eOp2 neD (oE (eF F_shows_rank (osCons (oV 2) (osCons (oV 1) (osCons (oV 3) (osCons (oV 10) (osCons (oE (eCa intOfD (osCons (oV 15) osNil))) (osCons (oE (eTup (osCons (oE (eK (.str "rank"))) (osCons (oE (eOp2 ixD2 (oV 5) (oV 17))) osNil)))) osNil)))))))) (oE (eAnd (eOp2 isNotND (oE (eOp2 ixD2 (oE (eOp2 ixD2 (oV 6) (oV 17))) (oV 10))) (oE (eK .non))) (eOp2 leD (oE (eOp2 ixD2 (oE (eOp2 ixD2 (oV 6) (oV 17))) (oV 10))) (oV 15)))))) (sRet (eK (.bl false))) sNil) (sIf (bE (eOp2 neD (oE (eF F_shows_rank (osCons (oV 2) (osCons (oV 1) (osCons (oV 3) (osCons (oV 10) (osCons (oE (eCa intOfD (osCons (oV 15) osNil))) (osCons (oE (eTup (osCons (oE (eK (.str "none"))) osNil))) osNil)))))))) (oE (eOp2 eqD (oE (eOp2 ixD2 (oV 22) (oE (eK (.int 0))))) (oE (eK (.str "none"))))))) (sRet (eK (.bl false))) sNil))))))))) (mE c old hs pot v4 (some (.int i)) v11 v12 v13 v14 v15 v16 v17 v18 v19 v20 v21 v22) = some (.nx, mE c old hs pot' v4 (some (.int i)) v11 v12 v13 v14 w15 v16 w17 v18 w19 w20 v21 w22) := by
  have C0 := b_0c t pot v4 v11 v12 v13 v14 v15 v16 v17 v18 v19 v20 v21 v22 hi
  have L1 := b_1 t pot v4 v11 v12 v13 v14 v15 v16 v17 v18 v20 v21 v22 hi
  have L2 := b_2 t pot v4 v11 v12 v13 v14 v15 v16 v17 v18 (some (smL c old hs i)) v21 v22 hi
  obtain ⟨p2, w15, w17, w22, hp2, L3⟩ := in_loop t pot v4 v11 v12 v13 v14 v15 v16 v17 v18 (some (smL c old hs i)) v21 v22 hi hp hn
  refine ⟨p2, w15, w17, some (smL c old hs i), some (oI (fst1 c old hs i)), w22, hp2, ?_⟩
  · generalize (eComp (iSeq (oV 6)) [12] (gN (po [12]) 12) (bE (eOp2 isNotND (oE (eOp2 ixD2 (oV 12) (oV 10))) (oE (eK .non)))) (eOp2 ixD2 (oV 12) (oV 10))) = X0 at C0 ⊢
    generalize (sAsg (eIf (bE (eOp2 neD (oV 19) (oE (eLst osNil)))) (eCa (mmD minI) (osCons (oV 19) osNil)) (eK .non)) (gN (pu sl0 (pinOf [true])) 20)) = X1 at L1 ⊢
    generalize (sIf (bE (eOp2 neD (oE (eCa reprD (osCons (oE (eF F_best_first (osCons (oV 2) (osCons (oV 1) (osCons (oV 3) (osCons (oV 10) osNil)))))) osNil))) (oE (eCa reprD (osCons (oV 20) osNil))))) (sRet (eK (.bl false))) sNil) = X2 at L2 ⊢
    generalize (sFor (iSeq (oE (eUn setSortLD (oE (eLst (osCons (oE (eK (.int 60))) (osCons (oE (eCa max2D (osCons (oE (eK (.int 0))) (osCons (oE (eOp2 subD (oE (eOrT (eV 20) (eK (.int 0)))) (oE (eK (.int 1))))) osNil)))) (osCons (oE (eOrT (eV 20) (eK (.int 0)))) osNil)))))))) (gN (pu sl0 (pu sl0 (pinOf [true]))) 15) (sSeq (sAsg (eF F_rank_told (osCons (oV 2) (osCons (oV 1) (osCons (oV 3) (osCons (oV 10) (osCons (oE (eCa intOfD (osCons (oV 15) osNil))) osNil)))))) (gN (pu sl0 (pu sl0 (pinOf [true]))) 22)) (sSeq (sIf (bOr (bE (eOp2 neD (oE (eOp2 eqD (oE (eOp2 ixD2 (oV 22) (oE (eK (.int 0))))) (oE (eK (.str "rank"))))) (oE (eAnd (eOp2 isNotND (oV 20) (oE (eK .non))) (eOp2 leD (oV 20) (oV 15)))))) (bE (eOp2 isNotBD (oE (eF F_shows_rank (osCons (oV 2) (osCons (oV 1) (osCons (oV 3) (osCons (oV 10) (osCons (oE (eCa intOfD (osCons (oV 15) osNil))) (osCons (oV 22) osNil)))))))) (oE (eK (.bl true)))))) (sRet (eK (.bl false))) sNil) (sSeq (sAsg (eF F__law_take (osCons (oV 0) (osCons (oE (eCa lenD (osCons (oV 5) osNil))) osNil))) (gN (pu sl0 (pu sl0 (pinOf [true]))) 17)) (sSeq (sIf (bE (eOp2 neD (oE (eF F_shows_rank (osCons (oV 2) (osCons (oV 1) (osCons (oV 3) (osCons (oV 10) (osCons (oE (eCa intOfD (osCons (oV 15) osNil))) (osCons (oE (eTup (osCons (oE (eK (.str "rank"))) (osCons (oE (eOp2 ixD2 (oV 5) (oV 17))) osNil)))) osNil)))))))) (oE (eAnd (eOp2 isNotND (oE (eOp2 ixD2 (oE (eOp2 ixD2 (oV 6) (oV 17))) (oV 10))) (oE (eK .non))) (eOp2 leD (oE (eOp2 ixD2 (oE (eOp2 ixD2 (oV 6) (oV 17))) (oV 10))) (oV 15)))))) (sRet (eK (.bl false))) sNil) (sIf (bE (eOp2 neD (oE (eF F_shows_rank (osCons (oV 2) (osCons (oV 1) (osCons (oV 3) (osCons (oV 10) (osCons (oE (eCa intOfD (osCons (oV 15) osNil))) (osCons (oE (eTup (osCons (oE (eK (.str "none"))) osNil))) osNil)))))))) (oE (eOp2 eqD (oE (eOp2 ixD2 (oV 22) (oE (eK (.int 0))))) (oE (eK (.str "none"))))))) (sRet (eK (.bl false))) sNil)))))) = X3 at L3 ⊢
    simp only [ev_sSeq, ev_sAsg, C0, Option.bind_some]
    simp [pu, sl0]
    simp only [L1, L2, L3, Option.bind_some]
end
section
variable {c : Nat} {old : List Nat} {hs : List Heir} (t : Town c old hs)
include t
variable (pot : D) (v4 v10 v11 v12 v13 v14 v15 v16 v17 v18 v19 v20 v21 v22 : Option D)
theorem heirs_ok {n : Nat} (hp : PotOk n pot) (hn : n < 750000000) : ∃ (pot' : D) (w10 w15 w17 w19 w20 w22 : Option D), PotOk (n + 200) pot' ∧ (sFor (iSeq (oE (eF F__law_some (osCons (oV 0) (osCons (oE (eF F__law_places (osCons (oV 3) osNil))) (osCons (oE (eK (.int 2))) osNil)))))) (gN (pu sl0 (pinOf [true])) 10) (sSeq (sAsg (eComp (iSeq (oV 6)) [12] (gN (po [12]) 12) (bE (eOp2 isNotND (oE (eOp2 ixD2 (oV 12) (oV 10))) (oE (eK .non)))) (eOp2 ixD2 (oV 12) (oV 10))) (gN (pu sl0 (pinOf [true])) 19)) (sSeq (sAsg (eIf (bE (eOp2 neD (oV 19) (oE (eLst osNil)))) (eCa (mmD minI) (osCons (oV 19) osNil)) (eK .non)) (gN (pu sl0 (pinOf [true])) 20)) (sSeq (sIf (bE (eOp2 neD (oE (eCa reprD (osCons (oE (eF F_best_first (osCons (oV 2) (osCons (oV 1) (osCons (oV 3) (osCons (oV 10) osNil)))))) osNil))) (oE (eCa reprD (osCons (oV 20) osNil))))) (sRet (eK (.bl false))) sNil) (sFor (iSeq (oE (eUn setSortLD (oE (eLst (osCons (oE (eK (.int 60))) (osCons (oE (eCa max2D (osCons (oE (eK (.int 0))) (osCons (oE (eOp2 subD (oE (eOrT (eV 20) (eK (.int 0)))) (oE (eK (.int 1))))) osNil)))) (osCons (oE (eOrT (eV 20) (eK (.int 0)))) osNil)))))))) (gN (pu sl0 (pu sl0 (pinOf [true]))) 15) (sSeq (sAsg (eF F_rank_told (osCons (oV 2) (osCons (oV 1) (osCons (oV 3) (osCons (oV 10) (osCons (oE (eCa intOfD (osCons (oV 15) osNil))) osNil)))))) (gN (pu sl0 (pu sl0 (pinOf [true]))) 22)) (sSeq (sIf (bOr (bE (eOp2 neD (oE (eOp2 eqD (oE (eOp2 ixD2 (oV 22) (oE (eK (.int 0))))) (oE (eK (.str "rank"))))) (oE (eAnd (eOp2 isNotND (oV 20) (oE (eK .non))) (eOp2 leD (oV 20) (oV 15)))))) (bE (eOp2 isNotBD (oE (eF F_shows_rank (osCons (oV 2) (osCons (oV 1) (osCons (oV 3) (osCons (oV 10) (osCons (oE (eCa intOfD (osCons (oV 15) osNil))) (osCons (oV 22) osNil)))))))) (oE (eK (.bl true)))))) (sRet (eK (.bl false))) sNil) (sSeq (sAsg (eF F__law_take (osCons (oV 0) (osCons (oE (eCa lenD (osCons (oV 5) osNil))) osNil))) (gN (pu sl0 (pu sl0 (pinOf [true]))) 17)) (sSeq (sIf (bE (eOp2 neD (oE (eF F_shows_rank (osCons (oV 2) (osCons (oV 1) (osCons (oV 3) (osCons (oV 10) (osCons (oE (eCa intOfD (osCons (oV 15) osNil))) (osCons (oE (eTup (osCons (oE (eK (.str "rank"))) (osCons (oE (eOp2 ixD2 (oV 5) (oV 17))) osNil)))) osNil)))))))) (oE (eAnd (eOp2 isNotND (oE (eOp2 ixD2 (oE (eOp2 ixD2 (oV 6) (oV 17))) (oV 10))) (oE (eK .non))) (eOp2 leD (oE (eOp2 ixD2 (oE (eOp2 ixD2 (oV 6) (oV 17))) (oV 10))) (oV 15)))))) (sRet (eK (.bl false))) sNil) (sIf (bE (eOp2 neD (oE (eF F_shows_rank (osCons (oV 2) (osCons (oV 1) (osCons (oV 3) (osCons (oV 10) (osCons (oE (eCa intOfD (osCons (oV 15) osNil))) (osCons (oE (eTup (osCons (oE (eK (.str "none"))) osNil))) osNil)))))))) (oE (eOp2 eqD (oE (eOp2 ixD2 (oV 22) (oE (eK (.int 0))))) (oE (eK (.str "none"))))))) (sRet (eK (.bl false))) sNil)))))))))) (mE c old hs pot v4 v10 v11 v12 v13 v14 v15 v16 v17 v18 v19 v20 v21 v22) = some (.nx, mE c old hs pot' v4 w10 v11 v12 v13 v14 w15 v16 w17 v18 w19 w20 v21 w22) := by
  obtain ⟨ks, p1, l1, l2, hp1, SM⟩ := F_some_h hp (by omega) hs.length t.hl
  have PL := F_places_h t.hl
  have im := hp.imm
  have ev : ((oE (eF F__law_some (osCons (oV 0) (osCons (oE (eF F__law_places (osCons (oV 3) osNil))) (osCons (oE (eK (.int 2))) osNil)))))) (mE c old hs pot v4 v10 v11 v12 v13 v14 v15 v16 v17 v18 v19 v20 v21 v22) = some (.own (lN ks), mE c old hs p1 v4 v10 v11 v12 v13 v14 v15 v16 v17 v18 v19 v20 v21 v22) := by
    simp [PL, SM, im, ioOf, ioSl, apart, putOuts]
  have q : Wp ((sFor (iSeq (oE (eF F__law_some (osCons (oV 0) (osCons (oE (eF F__law_places (osCons (oV 3) osNil))) (osCons (oE (eK (.int 2))) osNil)))))) (gN (pu sl0 (pinOf [true])) 10) (sSeq (sAsg (eComp (iSeq (oV 6)) [12] (gN (po [12]) 12) (bE (eOp2 isNotND (oE (eOp2 ixD2 (oV 12) (oV 10))) (oE (eK .non)))) (eOp2 ixD2 (oV 12) (oV 10))) (gN (pu sl0 (pinOf [true])) 19)) (sSeq (sAsg (eIf (bE (eOp2 neD (oV 19) (oE (eLst osNil)))) (eCa (mmD minI) (osCons (oV 19) osNil)) (eK .non)) (gN (pu sl0 (pinOf [true])) 20)) (sSeq (sIf (bE (eOp2 neD (oE (eCa reprD (osCons (oE (eF F_best_first (osCons (oV 2) (osCons (oV 1) (osCons (oV 3) (osCons (oV 10) osNil)))))) osNil))) (oE (eCa reprD (osCons (oV 20) osNil))))) (sRet (eK (.bl false))) sNil) (sFor (iSeq (oE (eUn setSortLD (oE (eLst (osCons (oE (eK (.int 60))) (osCons (oE (eCa max2D (osCons (oE (eK (.int 0))) (osCons (oE (eOp2 subD (oE (eOrT (eV 20) (eK (.int 0)))) (oE (eK (.int 1))))) osNil)))) (osCons (oE (eOrT (eV 20) (eK (.int 0)))) osNil)))))))) (gN (pu sl0 (pu sl0 (pinOf [true]))) 15) (sSeq (sAsg (eF F_rank_told (osCons (oV 2) (osCons (oV 1) (osCons (oV 3) (osCons (oV 10) (osCons (oE (eCa intOfD (osCons (oV 15) osNil))) osNil)))))) (gN (pu sl0 (pu sl0 (pinOf [true]))) 22)) (sSeq (sIf (bOr (bE (eOp2 neD (oE (eOp2 eqD (oE (eOp2 ixD2 (oV 22) (oE (eK (.int 0))))) (oE (eK (.str "rank"))))) (oE (eAnd (eOp2 isNotND (oV 20) (oE (eK .non))) (eOp2 leD (oV 20) (oV 15)))))) (bE (eOp2 isNotBD (oE (eF F_shows_rank (osCons (oV 2) (osCons (oV 1) (osCons (oV 3) (osCons (oV 10) (osCons (oE (eCa intOfD (osCons (oV 15) osNil))) (osCons (oV 22) osNil)))))))) (oE (eK (.bl true)))))) (sRet (eK (.bl false))) sNil) (sSeq (sAsg (eF F__law_take (osCons (oV 0) (osCons (oE (eCa lenD (osCons (oV 5) osNil))) osNil))) (gN (pu sl0 (pu sl0 (pinOf [true]))) 17)) (sSeq (sIf (bE (eOp2 neD (oE (eF F_shows_rank (osCons (oV 2) (osCons (oV 1) (osCons (oV 3) (osCons (oV 10) (osCons (oE (eCa intOfD (osCons (oV 15) osNil))) (osCons (oE (eTup (osCons (oE (eK (.str "rank"))) (osCons (oE (eOp2 ixD2 (oV 5) (oV 17))) osNil)))) osNil)))))))) (oE (eAnd (eOp2 isNotND (oE (eOp2 ixD2 (oE (eOp2 ixD2 (oV 6) (oV 17))) (oV 10))) (oE (eK .non))) (eOp2 leD (oE (eOp2 ixD2 (oE (eOp2 ixD2 (oV 6) (oV 17))) (oV 10))) (oV 15)))))) (sRet (eK (.bl false))) sNil) (sIf (bE (eOp2 neD (oE (eF F_shows_rank (osCons (oV 2) (osCons (oV 1) (osCons (oV 3) (osCons (oV 10) (osCons (oE (eCa intOfD (osCons (oV 15) osNil))) (osCons (oE (eTup (osCons (oE (eK (.str "none"))) osNil))) osNil)))))))) (oE (eOp2 eqD (oE (eOp2 ixD2 (oV 22) (oE (eK (.int 0))))) (oE (eK (.str "none"))))))) (sRet (eK (.bl false))) sNil)))))))))) (mE c old hs pot v4 v10 v11 v12 v13 v14 v15 v16 v17 v18 v19 v20 v21 v22)) fun k E => k = .nx ∧ ∃ (pot' : D) (w10 w15 w17 w19 w20 w22 : Option D), PotOk (n + 200) pot' ∧ E = mE c old hs pot' v4 w10 v11 v12 v13 v14 w15 v16 w17 v18 w19 w20 v21 w22 := by
    refine wp_for_seq (s := .own (lN ks)) ks (fun k : Nat => D.int k) (fun j E => ∃ (pot' : D) (w10 w15 w17 w19 w20 w22 : Option D), PotOk (n + 2 + 64 * j) pot' ∧ E = mE c old hs pot' v4 w10 v11 v12 v13 v14 w15 v16 w17 v18 w19 w20 v21 w22) ev rfl (fun _ _ => rfl) ⟨p1, v10, v15, v17, v19, v20, v22, hp1, rfl⟩ (fun j E h => by obtain ⟨_, _, _, _, _, _, _, _, rfl⟩ := h; rfl) (fun j x E hx h => ?_) (fun E h => ?_)
    · obtain ⟨p1, w10, w15, w17, w19, w20, w22, hp1, rfl⟩ := h
      have hj := (List.getElem?_eq_some_iff.mp hx).1
      obtain ⟨p2, u15, u17, u19, u20, u22, hp2, e⟩ := heir_ok t p1 v4 v11 v12 v13 v14 w15 v16 w17 v18 w19 w20 v21 w22 (l2 x (List.mem_of_getElem? hx)) hp1 (by omega)
      refine ⟨mE c old hs p1 v4 (some (.int x)) v11 v12 v13 v14 w15 v16 w17 v18 w19 w20 v21 w22, by simp [pu, sl0], Wp.of e ⟨p2, _, _, _, _, _, _, hp2.mono (by omega), rfl⟩⟩
    · obtain ⟨p1, w10, w15, w17, w19, w20, w22, hp1, rfl⟩ := h
      exact ⟨rfl, p1, w10, w15, w17, w19, w20, w22, hp1.mono (by omega), rfl⟩
  obtain ⟨k, E, e, rfl, p2, w10, w15, w17, w19, w20, w22, hp2, rfl⟩ := q
  exact ⟨p2, w10, w15, w17, w19, w20, w22, hp2, e⟩
end
end K59
end
section
namespace K59
open PySem PySem.Spec L2 Dn
theorem zip_range {α : Type} (f : Nat → α) (b : Nat → α → Bool) : ∀ (n k : Nat), ((((List.range' k n).map f).zipIdx k).filter fun p => b p.2 p.1).length = (List.range' k n).countP fun e => b e (f e)
  | 0, _ => rfl
  | n + 1, k => by
    have ih := zip_range f b n (k + 1)
    rw [List.range'_succ, List.map_cons, List.zipIdx_cons, List.filter_cons, List.countP_cons]
    by_cases h : b k (f k) = true
    · simp only [h, if_true, List.length_cons, ih]
    · simp only [h, if_false, ih, Nat.add_zero, Bool.false_eq_true]
section
variable {c : Nat} {old : List Nat} {hs : List Heir} (t : Town c old hs) {r : List Nat} (hr : Rank hs.length r) {h : Nat} (hh : h < hs.length)
include t hr hh
variable (pot : D) (v4 v11 v13 v14 v15 v16 v17 v18 v19 v20 v21 v22 : Option D) (y : Nat)
theorem had_1 : (eComp (iSeq (oV 1)) [24] (gN (po [24]) 24) (bE (eOp2 gtD (oV 24) (oV 15))) (eV 24)) (mE c old hs pot v4 (some (.int h)) v11 (some (gT (giv c old hs r))) v13 v14 (some (.int y)) v16 v17 v18 v19 v20 v21 v22) = some (lN (old.filter fun o => decide (y < o)), mE c old hs pot v4 (some (.int h)) v11 (some (gT (giv c old hs r))) v13 v14 (some (.int y)) v16 v17 v18 v19 v20 v21 v22) := by
  refine Wp.eq (wp_comp_seq (tk := .slot 1) (s := .own (pR old)) old (fun o : Nat => D.int o) (fun o => decide (y < o)) (fun o => .int o) rfl (by simp [scOf]) rfl rfl (by have := t.ol; have := t.c6; omega) (fun _ _ => rfl) (fun o _ => ?_) ?_)
  · refine ⟨_, by simp [wipeE, po]; rfl, ?_⟩
    by_cases q : y < o <;> simp [wipeE, q]
  · simp [wipeE, backE, lN]
theorem had_2 : ∃ l : List D, l.length = oth c old hs r h y ∧ (eComp (iEnum (osCons (oV 12) osNil)) [25, 22] (gTup 2 (gsCons (gN (po [25, 22]) 25) (gsCons (gN (po [25, 22]) 22) gsNil))) (bAnd (bE (eOp2 neD (oV 25) (oV 10))) (bAnd (bE (eOp2 isNotND (oV 22) (oE (eK .non)))) (bE (eChain ltD ltD (oV 22) (oV 15) (oE (eOp2 addD (oV 22) (oE (eOp2 ixD2 (oE (eOp2 ixD2 (oV 3) (oV 25))) (oE (eK (.int 2))))))))))) (eK (.int 1))) (mE c old hs pot v4 (some (.int h)) v11 (some (gT (giv c old hs r))) v13 v14 (some (.int y)) v16 v17 v18 v19 v20 v21 v22) = some (.lst l, mE c old hs pot v4 (some (.int h)) v11 (some (gT (giv c old hs r))) v13 v14 (some (.int y)) v16 v17 v18 v19 v20 v21 v22) := by
  have Q := comp_enum (r := (osCons (oV 12) osNil)) (own := [25, 22]) (τ := (gTup 2 (gsCons (gN (po [25, 22]) 25) (gsCons (gN (po [25, 22]) 22) gsNil)))) (t := (bAnd (bE (eOp2 neD (oV 25) (oV 10))) (bAnd (bE (eOp2 isNotND (oV 22) (oE (eK .non)))) (bE (eChain ltD ltD (oV 22) (oV 15) (oE (eOp2 addD (oV 22) (oE (eOp2 ixD2 (oE (eOp2 ixD2 (oV 3) (oV 25))) (oE (eK (.int 2)))))))))))) (x := (eK (.int 1))) (E := mE c old hs pot v4 (some (.int h)) v11 (some (gT (giv c old hs r))) v13 v14 (some (.int y)) v16 v17 v18 v19 v20 v21 v22) (E0 := mE c old hs pot v4 (some (.int h)) v11 (some (gT (giv c old hs r))) v13 v14 (some (.int y)) v16 v17 v18 v19 v20 v21 v22) (tk := .slot 12) (s := .own (gT (giv c old hs r)))
    (giv c old hs r) oN (fun e o => decide (e ≠ h) && o.any fun z => decide (z < y) && decide (y < z + lf hs e)) (fun _ _ => .int 1) (by simp) (by simp [scOf]) rfl rfl (by rw [giv_len]; have := t.hl; omega) (fun _ _ => encON.imm _) (fun e o he => gives_of ⟨_, by simp [wipeE, po]; rfl, by
      have hl := (List.getElem?_eq_some_iff.mp he).1
      rw [giv_len] at hl
      have g : hs[e]? = some hs[e] := List.getElem?_eq_getElem hl
      have w := lf_of g
      have ne : neD (.int (e : Int)) (.int (h : Int)) = some (.bl (decide (e ≠ h))) := by simp
      by_cases q : e = h
      · subst q; simp [wipeE]
      · cases o with
        | none => simp [wipeE, q, oN]
        | some z =>
          have L1 : ((z : Int) < (y : Int)) = (z < y) := propext (by omega)
          have L2 : ((y : Int) < (z : Int) + ((hs[e]'hl).2.2 : Int)) = (y < z + lf hs e) := propext (by rw [w]; omega)
          by_cases q1 : z < y
          · by_cases q2 : y < z + lf hs e <;> simp [wipeE, q, oN, g, L1, L2, q1, q2]
          · simp [wipeE, q, oN, g, L1, L2, q1]⟩)
  refine ⟨((giv c old hs r).zipIdx.filter fun p => decide (p.2 ≠ h) && p.1.any fun z => decide (z < y) && decide (y < z + lf hs p.2)).map fun _ => D.int 1, ?_, ?_⟩
  rotate_left
  · rw [Q]
    simp [wipeE, backE]
  · rw [List.length_map]
    have := zip_range (lk (upTo c old hs r 61).g) (fun e o => decide (e ≠ h) && o.any fun z => decide (z < y) && decide (y < z + lf hs e)) hs.length 0
    rw [← List.range_eq_range'] at this
    exact this
theorem had_ok : (sAsg (eOp2 addD (oE (eCa lenD (osCons (oE (eComp (iSeq (oV 1)) [24] (gN (po [24]) 24) (bE (eOp2 gtD (oV 24) (oV 15))) (eV 24))) osNil))) (oE (eCa lenD (osCons (oE (eComp (iEnum (osCons (oV 12) osNil)) [25, 22] (gTup 2 (gsCons (gN (po [25, 22]) 25) (gsCons (gN (po [25, 22]) 22) gsNil))) (bAnd (bE (eOp2 neD (oV 25) (oV 10))) (bAnd (bE (eOp2 isNotND (oV 22) (oE (eK .non)))) (bE (eChain ltD ltD (oV 22) (oV 15) (oE (eOp2 addD (oV 22) (oE (eOp2 ixD2 (oE (eOp2 ixD2 (oV 3) (oV 25))) (oE (eK (.int 2))))))))))) (eK (.int 1)))) osNil)))) (gN (pu sl0 (pinOf [true])) 21)) (mE c old hs pot v4 (some (.int h)) v11 (some (gT (giv c old hs r))) v13 v14 (some (.int y)) v16 v17 v18 v19 v20 v21 v22) = some (.nx, mE c old hs pot v4 (some (.int h)) v11 (some (gT (giv c old hs r))) v13 v14 (some (.int y)) v16 v17 v18 v19 v20 (some (.int (had c old hs r h y : Nat))) v22) := by
  have C1 := had_1 t hr hh pot v4 v11 v13 v14 v16 v17 v18 v19 v20 v21 v22 y
  obtain ⟨l, hl, C2⟩ := had_2 t hr hh pot v4 v11 v13 v14 v16 v17 v18 v19 v20 v21 v22 y
  have e : (((old.filter fun o => decide (y < o)).length : Int) + (l.length : Int)) = (had c old hs r h y : Nat) := by
    unfold had
    rw [hl, List.countP_eq_length_filter]
    omega
  generalize (eComp (iSeq (oV 1)) [24] (gN (po [24]) 24) (bE (eOp2 gtD (oV 24) (oV 15))) (eV 24)) = X1 at C1 ⊢
  generalize (eComp (iEnum (osCons (oV 12) osNil)) [25, 22] (gTup 2 (gsCons (gN (po [25, 22]) 25) (gsCons (gN (po [25, 22]) 22) gsNil))) (bAnd (bE (eOp2 neD (oV 25) (oV 10))) (bAnd (bE (eOp2 isNotND (oV 22) (oE (eK .non)))) (bE (eChain ltD ltD (oV 22) (oV 15) (oE (eOp2 addD (oV 22) (oE (eOp2 ixD2 (oE (eOp2 ixD2 (oV 3) (oV 25))) (oE (eK (.int 2))))))))))) (eK (.int 1))) = X2 at C2 ⊢
  simp only [ev_sAsg, ev_eOp2, ev_oE, ev_eCa, ev_osCons, ev_osNil, C1, C2, Option.map_some, Option.bind_some, ev_rd_own, ev_rds_cons, ev_rds_nil, op_len_l, List.length_map, op_add_ii, e]
  simp [pu, sl0]
theorem free_ok (fs : List Nat) (hf : fs.length ≤ 100) : (sExp (eMut1 14 extF (eIf (bE (eOp2 ltD (oV 21) (oV 2))) (eLst (osCons (oE (eV 15)) osNil)) (eLst osNil)))) (mE c old hs pot v4 (some (.int h)) v11 (some (gT (giv c old hs r))) v13 (some (lN fs)) (some (.int y)) v16 v17 v18 v19 v20 (some (.int (had c old hs r h y : Nat))) v22) = some (.nx, mE c old hs pot v4 (some (.int h)) v11 (some (gT (giv c old hs r))) v13 (some (lN (fs ++ if had c old hs r h y < c then [y] else []))) (some (.int y)) v16 v17 v18 v19 v20 (some (.int (had c old hs r h y : Nat))) v22) := by
  generalize had c old hs r h y = k
  by_cases q : k < c
  · have X : extF (fs.map fun k : Nat => D.int k) (.lst [.int y]) = some (.non, (fs.map fun k : Nat => D.int k) ++ [.int y]) := if_pos (by simp; omega)
    have q2 : (k : Int) < c := by omega
    simp [q, q2, X]
  · have X : extF (fs.map fun k : Nat => D.int k) (.lst []) = some (.non, (fs.map fun k : Nat => D.int k) ++ []) := if_pos (by simp; omega)
    have q2 : ¬ (k : Int) < c := by omega
    simp [q, q2, X]
theorem years_ok (hd : r.head? = some h) : ∃ w15 w21, (sFor (iRange 2 (osCons (oV 13) (osCons (oE (eK (.int 61))) osNil))) (gN (pu sl0 (pinOf [true])) 15) (sSeq (sAsg (eOp2 addD (oE (eCa lenD (osCons (oE (eComp (iSeq (oV 1)) [24] (gN (po [24]) 24) (bE (eOp2 gtD (oV 24) (oV 15))) (eV 24))) osNil))) (oE (eCa lenD (osCons (oE (eComp (iEnum (osCons (oV 12) osNil)) [25, 22] (gTup 2 (gsCons (gN (po [25, 22]) 25) (gsCons (gN (po [25, 22]) 22) gsNil))) (bAnd (bE (eOp2 neD (oV 25) (oV 10))) (bAnd (bE (eOp2 isNotND (oV 22) (oE (eK .non)))) (bE (eChain ltD ltD (oV 22) (oV 15) (oE (eOp2 addD (oV 22) (oE (eOp2 ixD2 (oE (eOp2 ixD2 (oV 3) (oV 25))) (oE (eK (.int 2))))))))))) (eK (.int 1)))) osNil)))) (gN (pu sl0 (pinOf [true])) 21)) (sExp (eMut1 14 extF (eIf (bE (eOp2 ltD (oV 21) (oV 2))) (eLst (osCons (oE (eV 15)) osNil)) (eLst osNil)))))) (mE c old hs pot v4 (some (.int h)) v11 (some (gT (giv c old hs r))) (some (.int (wt hs h : Nat))) (some (.lst [])) v15 v16 v17 v18 v19 v20 v21 v22) = some (.nx, mE c old hs pot v4 (some (.int h)) v11 (some (gT (giv c old hs r))) (some (.int (wt hs h : Nat))) (some (lN (frs c old hs r h))) w15 v16 v17 v18 v19 v20 w21 v22) := by
  have wl : wt hs h ≤ 50 := by
    have e : hs[h]? = some hs[h] := List.getElem?_eq_getElem hh
    rw [wt_of e]
    have := t.h1 _ (List.getElem_mem hh)
    have := t.h2 _ (List.getElem_mem hh)
    omega
  have key : ∃ k E, (sFor (iRange 2 (osCons (oV 13) (osCons (oE (eK (.int 61))) osNil))) (gN (pu sl0 (pinOf [true])) 15) (sSeq (sAsg (eOp2 addD (oE (eCa lenD (osCons (oE (eComp (iSeq (oV 1)) [24] (gN (po [24]) 24) (bE (eOp2 gtD (oV 24) (oV 15))) (eV 24))) osNil))) (oE (eCa lenD (osCons (oE (eComp (iEnum (osCons (oV 12) osNil)) [25, 22] (gTup 2 (gsCons (gN (po [25, 22]) 25) (gsCons (gN (po [25, 22]) 22) gsNil))) (bAnd (bE (eOp2 neD (oV 25) (oV 10))) (bAnd (bE (eOp2 isNotND (oV 22) (oE (eK .non)))) (bE (eChain ltD ltD (oV 22) (oV 15) (oE (eOp2 addD (oV 22) (oE (eOp2 ixD2 (oE (eOp2 ixD2 (oV 3) (oV 25))) (oE (eK (.int 2))))))))))) (eK (.int 1)))) osNil)))) (gN (pu sl0 (pinOf [true])) 21)) (sExp (eMut1 14 extF (eIf (bE (eOp2 ltD (oV 21) (oV 2))) (eLst (osCons (oE (eV 15)) osNil)) (eLst osNil)))))) (mE c old hs pot v4 (some (.int h)) v11 (some (gT (giv c old hs r))) (some (.int (wt hs h : Nat))) (some (.lst [])) v15 v16 v17 v18 v19 v20 v21 v22) = some (k, E) ∧ (k = .nx ∧ ∃ w15 w21, E = mE c old hs pot v4 (some (.int h)) v11 (some (gT (giv c old hs r))) (some (.int (wt hs h : Nat))) (some (lN (frs c old hs r h))) w15 v16 v17 v18 v19 v20 w21 v22) := by
   refine for_range2 (r := (osCons (oV 13) (osCons (oE (eK (.int 61))) osNil))) (τ := (gN (pu sl0 (pinOf [true])) 15)) (b := (sSeq (sAsg (eOp2 addD (oE (eCa lenD (osCons (oE (eComp (iSeq (oV 1)) [24] (gN (po [24]) 24) (bE (eOp2 gtD (oV 24) (oV 15))) (eV 24))) osNil))) (oE (eCa lenD (osCons (oE (eComp (iEnum (osCons (oV 12) osNil)) [25, 22] (gTup 2 (gsCons (gN (po [25, 22]) 25) (gsCons (gN (po [25, 22]) 22) gsNil))) (bAnd (bE (eOp2 neD (oV 25) (oV 10))) (bAnd (bE (eOp2 isNotND (oV 22) (oE (eK .non)))) (bE (eChain ltD ltD (oV 22) (oV 15) (oE (eOp2 addD (oV 22) (oE (eOp2 ixD2 (oE (eOp2 ixD2 (oV 3) (oV 25))) (oE (eK (.int 2))))))))))) (eK (.int 1)))) osNil)))) (gN (pu sl0 (pinOf [true])) 21)) (sExp (eMut1 14 extF (eIf (bE (eOp2 ltD (oV 21) (oV 2))) (eLst (osCons (oE (eV 15)) osNil)) (eLst osNil)))))) (E := mE c old hs pot v4 (some (.int h)) v11 (some (gT (giv c old hs r))) (some (.int (wt hs h : Nat))) (some (.lst [])) v15 v16 v17 v18 v19 v20 v21 v22) (E0 := mE c old hs pot v4 (some (.int h)) v11 (some (gT (giv c old hs r))) (some (.int (wt hs h : Nat))) (some (.lst [])) v15 v16 v17 v18 v19 v20 v21 v22) (t1 := .slot 13) (t2 := .own (.int 61)) (m := (wt hs h : Nat)) (n := 61) rfl rfl rfl (fits_of (by omega) (by omega)) (fits_of (by omega) (by omega))
    (fun j E => ∃ w15 w21, E = mE c old hs pot v4 (some (.int h)) v11 (some (gT (giv c old hs r))) (some (.int (wt hs h : Nat))) (some (lN (((List.range j).map fun j => wt hs h + j).filter fun y => decide (had c old hs r h y < c)))) w15 v16 v17 v18 v19 v20 w21 v22)
    (fun k E => k = .nx ∧ ∃ w15 w21, E = mE c old hs pot v4 (some (.int h)) v11 (some (gT (giv c old hs r))) (some (.int (wt hs h : Nat))) (some (lN (frs c old hs r h))) w15 v16 v17 v18 v19 v20 w21 v22)
    ⟨v15, v21, rfl⟩ (fun j E hj z => ?_) (fun E z => ?_)
   · obtain ⟨w15, w21, rfl⟩ := z
     have cast : (wt hs h : Int) + (j : Int) = ((wt hs h + j : Nat) : Int) := by omega
     have A1 := had_ok t hr hh pot v4 v11 (some (.int (wt hs h : Nat))) (some (lN (((List.range j).map fun j => wt hs h + j).filter fun y => decide (had c old hs r h y < c)))) v16 v17 v18 v19 v20 w21 v22 (wt hs h + j)
     have A2 := free_ok t hr hh pot v4 v11 (some (.int (wt hs h : Nat))) v16 v17 v18 v19 v20 v22 (wt hs h + j) (((List.range j).map fun j => wt hs h + j).filter fun y => decide (had c old hs r h y < c)) (by
       refine Nat.le_trans (List.length_filter_le _ _) ?_
       simp; omega)
     have sp : ((List.range (j + 1)).map fun j => wt hs h + j).filter (fun y => decide (had c old hs r h y < c)) = (((List.range j).map fun j => wt hs h + j).filter fun y => decide (had c old hs r h y < c)) ++ if had c old hs r h (wt hs h + j) < c then [wt hs h + j] else [] := by
       rw [List.range_succ, List.map_append, List.filter_append]
       congr 1
       by_cases q : had c old hs r h (wt hs h + j) < c <;> simp [q]
     rw [cast]
     generalize (sAsg (eOp2 addD (oE (eCa lenD (osCons (oE (eComp (iSeq (oV 1)) [24] (gN (po [24]) 24) (bE (eOp2 gtD (oV 24) (oV 15))) (eV 24))) osNil))) (oE (eCa lenD (osCons (oE (eComp (iEnum (osCons (oV 12) osNil)) [25, 22] (gTup 2 (gsCons (gN (po [25, 22]) 25) (gsCons (gN (po [25, 22]) 22) gsNil))) (bAnd (bE (eOp2 neD (oV 25) (oV 10))) (bAnd (bE (eOp2 isNotND (oV 22) (oE (eK .non)))) (bE (eChain ltD ltD (oV 22) (oV 15) (oE (eOp2 addD (oV 22) (oE (eOp2 ixD2 (oE (eOp2 ixD2 (oV 3) (oV 25))) (oE (eK (.int 2))))))))))) (eK (.int 1)))) osNil)))) (gN (pu sl0 (pinOf [true])) 21)) = X1 at A1 ⊢
     generalize (sExp (eMut1 14 extF (eIf (bE (eOp2 ltD (oV 21) (oV 2))) (eLst (osCons (oE (eV 15)) osNil)) (eLst osNil)))) = X2 at A2 ⊢
     refine ⟨mE c old hs pot v4 (some (.int h)) v11 (some (gT (giv c old hs r))) (some (.int (wt hs h : Nat))) (some (lN (((List.range j).map fun j => wt hs h + j).filter fun y => decide (had c old hs r h y < c)))) (some (.int (wt hs h + j : Nat))) v16 v17 v18 v19 v20 w21 v22, .nx, _, by simp [pu, sl0], by simp only [ev_sSeq, A1, A2, Option.bind_some]; rfl, ?_⟩
     show ∃ w15 w21, _ = _
     rw [sp]
     exact ⟨_, _, rfl⟩
   · obtain ⟨w15, w21, rfl⟩ := z
     refine ⟨rfl, w15, w21, ?_⟩
     have e : ((61 : Int) - ((wt hs h : Nat) : Int)).toNat = 61 - wt hs h := by omega
     rw [e]
     rfl
  obtain ⟨k, E, e, rfl, w15, w21, rfl⟩ := key
  exact ⟨w15, w21, e⟩
theorem last_ok (hd : r.head? = some h) : (sRet (eOr (eAnd (eOp2 isND (oE (eOp2 ixD2 (oV 12) (oV 10))) (oE (eK .non))) (eOp2 eqD (oV 14) (oE (eLst osNil)))) (eAnd (eOp2 isNotND (oE (eOp2 ixD2 (oV 12) (oV 10))) (oE (eK .non))) (eOp2 eqD (oE (eOp2 ixD2 (oV 12) (oV 10))) (oE (eOp2 ixD2 (oV 14) (oE (eK (.int 0))))))))) (mE c old hs pot v4 (some (.int h)) v11 (some (gT (giv c old hs r))) v13 (some (lN (frs c old hs r h))) v15 v16 v17 v18 v19 v20 v21 v22) = some (.rt (.bl true), mE c old hs pot v4 (some (.int h)) v11 (some (gT (giv c old hs r))) v13 (some (lN (frs c old hs r h))) v15 v16 v17 v18 v19 v20 v21 v22) := by
  have G := frs_ok t hr hd
  have I := gT_ix (giv c old hs r) h
  rw [giv_ix c old hs r hh] at I
  generalize frs c old hs r h = fs at *
  cases g : gv c old hs r h with
  | none =>
    rw [g] at G I
    have e : fs = [] := List.head?_eq_none_iff.mp G
    subst e
    have z : (D.lst []).eqv (.lst []) = true := by rw [eqv_l0]; rfl
    simp [I, oN, lN, z]
  | some z =>
    rw [g] at G I
    cases fs with
    | nil => cases G
    | cons a fs =>
      have : a = z := by simpa using G
      subst this
      simp [I, oN]
end
end K59
end
section
namespace K59
open PySem PySem.Spec L2 Dn
theorem seq_nx {X Y : SX} {E E' : Dn.Env} (h : X E = some (.nx, E')) : sSeq X Y E = Y E' := by
  simp only [ev_sSeq, h, Option.bind_some]
theorem seq_rt {X Y : SX} {E E' : Dn.Env} {d : D} (h : X E = some (.rt d, E')) : sSeq X Y E = some (.rt d, E') := by
  simp only [ev_sSeq, h, Option.bind_some]
section
variable {c : Nat} {old : List Nat} {hs : List Heir} (t : Town c old hs)
include t
variable (pot : D) (v4 v10 v11 v12 v13 v14 v15 v16 v17 v18 v19 v20 v21 v22 : Option D)
theorem s13_nil (h : hs = []) : (sIf (bE (eOp2 eqD (oV 3) (oE (eTup osNil)))) (sRet (eOp2 isBD (oE (eF F_shows_fairest (osCons (oV 2) (osCons (oV 1) (osCons (oV 3) (osCons (oE (eTup (osCons (oE (eK (.int 0))) (osCons (oE (eTup osNil)) osNil)))) osNil)))))) (oE (eK (.bl false))))) sNil) (mE c old hs pot v4 v10 v11 v12 v13 v14 v15 v16 v17 v18 v19 v20 v21 v22) = some (.rt (.bl true), mE c old hs pot v4 v10 v11 v12 v13 v14 v15 v16 v17 v18 v19 v20 v21 v22) := by
  have F := F_fair_row t (v := 0) (r := []) (by rw [h]; exact List.Perm.refl _)
  have b : bestRow (fai c old hs) = none := by
    subst h
    rfl
  rw [b] at F
  have S : (hsD hs).shp = true := encH.tupShp hs
  have E : (hsD hs).eqv (.tup []) = decide (hs = []) := encH.tupEq hs []
  have z : (hsD hs).eqv (.tup []) = true := by rw [E, h]; rfl
  have e0 : pR [] = .tup [] := rfl
  simp only [rD, e0] at F
  simp [S, z, F, ioOf, ioSl, apart, putOuts]
theorem s13_ne (h : hs ≠ []) : (sIf (bE (eOp2 eqD (oV 3) (oE (eTup osNil)))) (sRet (eOp2 isBD (oE (eF F_shows_fairest (osCons (oV 2) (osCons (oV 1) (osCons (oV 3) (osCons (oE (eTup (osCons (oE (eK (.int 0))) (osCons (oE (eTup osNil)) osNil)))) osNil)))))) (oE (eK (.bl false))))) sNil) (mE c old hs pot v4 v10 v11 v12 v13 v14 v15 v16 v17 v18 v19 v20 v21 v22) = some (.nx, mE c old hs pot v4 v10 v11 v12 v13 v14 v15 v16 v17 v18 v19 v20 v21 v22) := by
  have S : (hsD hs).shp = true := encH.tupShp hs
  have E : (hsD hs).eqv (.tup []) = decide (hs = []) := encH.tupEq hs []
  simp [S, E, h]
theorem s14_ok {n : Nat} (hp : PotOk n pot) (hn : n < 900000000) : ∃ (r : List Nat) (pot' : D), r ∈ ranks hs.length ∧ PotOk (n + 1) pot' ∧ (sAsg (eF F__law_of (osCons (oV 0) (osCons (oV 5) osNil))) (gN (pinOf [true]) 11)) (mE c old hs pot v4 v10 v11 v12 v13 v14 v15 v16 v17 v18 v19 v20 v21 v22) = some (.nx, mE c old hs pot' v4 v10 (some (pR r)) v12 v13 v14 v15 v16 v17 v18 v19 v20 v21 v22) := by
  have sm : (ranks hs.length).length ≤ 256 := rows_small t.hl _ t.hl
  have ps : 0 < (ranks hs.length).length := List.length_pos_iff.mpr (ranks_ne t.hl)
  obtain ⟨j, x, p2, hj, hp2, e⟩ := of_ok true hp (by omega) (xs := (ranks hs.length).map pR) (by simpa using ps) (by rw [List.length_map]; omega) (fun x hx => by
    obtain ⟨r, _, rfl⟩ := List.mem_map.mp hx
    exact pR_imm r)
  rw [List.getElem?_map] at hj
  obtain ⟨r, hr, rfl⟩ := Option.map_eq_some_iff.mp hj
  refine ⟨r, p2, List.mem_of_getElem? hr, hp2, ?_⟩
  have im := hp.imm
  have rl : rL (ranks hs.length) = .lst ((ranks hs.length).map pR) := rfl
  simp only [mE, rl]
  simp [im, e, ioOf, ioSl, apart, putOuts]
theorem s15_ok {r : List Nat} (hr : r ∈ ranks hs.length) {h : Nat} (hd : r.head? = some h) : (sAsg (eTup (osCons (oE (eOp2 ixD2 (oV 6) (oE (eMeth "list" (idxD "list") (oV 5) (osCons (oV 11) osNil))))) (osCons (oE (eOp2 ixD2 (oV 11) (oE (eK (.int 0))))) osNil))) (gTup 2 (gsCons (gN (pinOf [true]) 12) (gsCons (gN (pinOf [true]) 10) gsNil)))) (mE c old hs pot v4 v10 (some (pR r)) v12 v13 v14 v15 v16 v17 v18 v19 v20 v21 v22) = some (.nx, mE c old hs pot v4 (some (.int h)) (some (pR r)) (some (gT (giv c old hs r))) v13 v14 v15 v16 v17 v18 v19 v20 v21 v22) := by
  obtain ⟨j, ej, hj⟩ := idx_ok hr
  have G := runL_ix c old hs hj
  have RL : (rL (ranks hs.length)).ty = "list" := rfl
  have I : ixD2 (pR r) (.int 0) = some (.int h) := by
    have := pR_ix r 0
    cases r with
    | nil => cases hd
    | cons a r =>
      have : a = h := by simpa using hd
      subst this
      simp [pR]
  simp [ej, G, RL, I]
theorem s16_ok {h : Nat} (hh : h < hs.length) : (sAsg (eOp2 addD (oE (eOp2 ixD2 (oE (eOp2 ixD2 (oV 3) (oV 10))) (oE (eK (.int 0))))) (oE (eOp2 ixD2 (oE (eOp2 ixD2 (oV 3) (oV 10))) (oE (eK (.int 1)))))) (gN (pinOf [true]) 13)) (mE c old hs pot v4 (some (.int h)) v11 v12 v13 v14 v15 v16 v17 v18 v19 v20 v21 v22) = some (.nx, mE c old hs pot v4 (some (.int h)) v11 v12 (some (.int (wt hs h : Nat))) v14 v15 v16 v17 v18 v19 v20 v21 v22) := by
  have e : hs[h]? = some hs[h] := List.getElem?_eq_getElem hh
  have w := wt_of e
  simp [e, w]
theorem s17_ok : (sAsg (eLst osNil) (gN (pinOf [true]) 14)) (mE c old hs pot v4 v10 v11 v12 v13 v14 v15 v16 v17 v18 v19 v20 v21 v22) = some (.nx, mE c old hs pot v4 v10 v11 v12 v13 (some (.lst [])) v15 v16 v17 v18 v19 v20 v21 v22) := by
  simp
end
theorem right_ok (n : Nat) (d : D) (hn : n < 700000000) (hp : PotOk n d) : ∃ d', PotOk (n + 20000000) d' ∧ F__law_right [d] [true] = some (.bl true, [some d']) := by
  obtain ⟨d', E, hp', hE, key⟩ : ∃ (d' : D) (E : Dn.Env), PotOk (n + 20000000) d' ∧ E.head? = some (some d') ∧ B__law_right (pinOf [true]) (some d :: N25) = some (.rt (.bl true), E) := by
    obtain ⟨p1, old, c, hs, v4, v16, t, hp1, e1⟩ := draw_all hp hn
    have e2 := first_ok t p1 v4 v16
    have e9 := told_ok t p1 v4 none none none none none none v16 none none none none none none
    have e10 := told_ok2 t p1 v4 none none none none none none v16 none none none none none none
    obtain ⟨p2, w4, w17, w18, hp2, e11⟩ := laps_ok t p1 v4 none none none none none none v16 none none none none none none hp1 (by omega)
    obtain ⟨p3, x10, x15, x17, x19, x20, x22, hp3, e12⟩ := heirs_ok t p2 w4 none none none none none none v16 w17 w18 none none none none hp2 (by omega)
    unfold B__law_right
    rw [e1, e2, seq_nx e9, seq_nx e10, seq_nx e11, seq_nx e12]
    by_cases h : hs = []
    · have e13 := s13_nil t p3 w4 x10 none none none none x15 v16 x17 w18 x19 x20 none x22 h
      exact ⟨p3, _, hp3.mono (by omega), rfl, seq_rt e13⟩
    · have e13 := s13_ne t p3 w4 x10 none none none none x15 v16 x17 w18 x19 x20 none x22 h
      obtain ⟨r, p4, hr, hp4, e14⟩ := s14_ok t p3 w4 x10 none none none none x15 v16 x17 w18 x19 x20 none x22 hp3 (by omega)
      have rk := rank_of_mem t.hl hr
      obtain ⟨k, hd⟩ : ∃ k, r.head? = some k := by
        cases r with
        | nil =>
          have := rk.len
          exact absurd (List.length_eq_zero_iff.mp this.symm) h
        | cons a r => exact ⟨a, rfl⟩
      have hk : k < hs.length := rk.lt (List.mem_of_mem_head? hd)
      have e15 := s15_ok t p4 w4 x10 none none none x15 v16 x17 w18 x19 x20 none x22 hr hd
      have e16 := s16_ok t p4 w4 (some (pR r)) (some (gT (giv c old hs r))) none none x15 v16 x17 w18 x19 x20 none x22 hk
      have e17 := s17_ok t p4 w4 (some (.int k)) (some (pR r)) (some (gT (giv c old hs r))) (some (.int (wt hs k : Nat))) none x15 v16 x17 w18 x19 x20 none x22
      obtain ⟨y15, y21, e18⟩ := years_ok t rk hk p4 w4 (some (pR r)) x15 v16 x17 w18 x19 x20 none x22 hd
      have e19 := last_ok t rk hk p4 w4 (some (pR r)) (some (.int (wt hs k : Nat))) y15 v16 x17 w18 x19 x20 y21 x22 hd
      rw [seq_nx e13, seq_nx e14, seq_nx e15, seq_nx e16, seq_nx e17, seq_nx e18, e19]
      exact ⟨p4, _, hp4.mono (by omega), rfl, rfl⟩
  refine ⟨d', hp', ?_⟩
  unfold F__law_right mkF
  rw [if_pos ⟨rfl, rfl⟩]
  have k2 : B__law_right (pinOf [true]) ([d].map some ++ List.replicate (26 - 1) none) = some (.rt (.bl true), E) := key
  rw [k2]
  cases E with
  | nil => cases hE
  | cons a E =>
    have : a = some d' := by simpa using hE
    subst this
    simp [outs]
theorem law_ok (zs : List Int) : ∃ E, F_law [.frz (zs.map D.int)] [false] = some (.bl true, E) := by
  obtain ⟨E, e⟩ := law_gen (laps := 1) (cells := 2) (by decide) (by decide) (by decide) right_ok (pinOf [false]) rfl rfl zs
  refine ⟨outs [false] E, ?_⟩
  unfold F_law mkF
  rw [if_pos ⟨rfl, rfl⟩]
  have k2 : B_law (pinOf [false]) ([D.frz (zs.map D.int)].map some ++ List.replicate (4 - 1) none) = some (.rt (.bl true), E) := e
  rw [k2]
  rfl
end K59
end
namespace HeadK59
open PySem PySem.Spec PyProof.Rows L2 Dn
def dd (x : Str) (i : Nat) : He.DefD := ⟨(x, none), x, x, defArgs (K59.top i), defBody (K59.top i), defScope (K59.top i), [], []⟩
def fn : List He.DefD := ([dd "is_integer" 10, dd "is_between" 11, dd "are_between" 12, dd "check_chairs" 21, dd "check_old" 22, dd "is_heir" 23, dd "check_heirs" 24, dd "is_rank" 25, dd "check_town" 26, dd "check_ranked" 27, dd "waited_from" 28, dd "run_of" 29, dd "given_by" 30, dd "given_in" 31, dd "waits_by" 33, dd "longest_wait" 34, dd "check_few" 40, dd "check_heir" 41, dd "check_heir_year" 42, dd "ranks_of" 43] : List He.DefD) ++ ([dd "years_of_all" 44, dd "best_first" 45, dd "rank_by" 46, dd "rank_told" 47, dd "shows_rank" 48, dd "longest_by" 49, dd "fairest_of" 50, dd "fairest" 51, dd "shows_fairest" 52, dd "_law_pot" 54, dd "_law_take" 55, dd "_law_of" 56, dd "_law_cells" 57, dd "_law_some" 58, dd "_law_places" 59, dd "_law_run" 60, dd "_law_ranks" 61, dd "_law_greatest" 62, dd "_law_right" 63, dd "law" 64] : List He.DefD)
def fa : List He.Fa := ([.glo "is_integer", .glo "is_between", .glo "are_between", .glo "check_chairs", .glo "check_old", .glo "is_heir", .glo "check_heirs", .glo "is_rank", .glo "check_town", .glo "check_ranked", .glo "waited_from", .glo "run_of", .glo "given_by", .glo "given_in", .glo "waits_by", .glo "longest_wait", .glo "check_few", .glo "check_heir", .glo "check_heir_year", .glo "ranks_of"] : List He.Fa) ++ ([.glo "years_of_all", .glo "best_first", .glo "rank_by", .glo "rank_told", .glo "shows_rank", .glo "longest_by", .glo "fairest_of", .glo "fairest", .glo "shows_fairest", .glo "_law_pot", .glo "_law_take", .glo "_law_of", .glo "_law_cells", .glo "_law_some", .glo "_law_places", .glo "_law_run", .glo "_law_ranks", .glo "_law_greatest", .glo "_law_right", .glo "law"] : List He.Fa) ++ ([.free "abs", .free "all", .free "any", .free "bool", .free "dict", .free "divmod", .free "enumerate", .free "int", .free "isinstance", .free "len", .free "list", .free "max", .free "min", .free "range", .free "repr", .free "reversed", .free "set", .free "sorted", .free "str", .free "sum"] : List He.Fa) ++ ([.free "tuple", .free "zip", .int "MOST_CHAIRS" 6, .int "LAST" 60, .int "MOST_ENDED" 40, .int "MOST_LIFE" 40, .int "MOST_WAIT" 10, .int "THREE" 3, .int "MOST_HEIRS" 10, .int "MOST_RANKED" 5, .str "NONE" "none", .str "RANK" "rank", .int "MOST_WAITED" 100] : List He.Fa)
abbrev R : PySem.W.OpenRow := PySem.W.OpenLaw.row PySem.Challenge.rw_whotaughtwhom_k59_whole_ranks_of_heirs_g
abbrev hk : PySem.W.Hook := He.hookD 4 fa fn
def ob (s : PySem.W.SharedT) : He.AlD := He.obsDG 4 fa fn (HandSHeadRun.getT s)
theorem ob_eq (s : PySem.W.SharedT) : ob s = hk.obs s.abs := He.obsDG_eq (HandSHeadRun.getT_eq s)
def loose : List PySem.Str := ([("__name__" : PySem.Str), ("GuildError" : PySem.Str), ("BadChairs" : PySem.Str), ("BadHeir" : PySem.Str), ("BadHeirs" : PySem.Str), ("BadOld" : PySem.Str), ("BadRank" : PySem.Str), ("BadYear" : PySem.Str), ("TooMany" : PySem.Str), ("is_integer" : PySem.Str), ("is_between" : PySem.Str), ("are_between" : PySem.Str), ("MOST_CHAIRS" : PySem.Str), ("MOST_HEIRS" : PySem.Str), ("LAST" : PySem.Str), ("MOST_ENDED" : PySem.Str), ("MOST_WAIT" : PySem.Str), ("MOST_LIFE" : PySem.Str), ("THREE" : PySem.Str), ("check_chairs" : PySem.Str)] : List PySem.Str) ++ ([("check_old" : PySem.Str), ("is_heir" : PySem.Str), ("check_heirs" : PySem.Str), ("is_rank" : PySem.Str), ("check_town" : PySem.Str), ("check_ranked" : PySem.Str), ("waited_from" : PySem.Str), ("run_of" : PySem.Str), ("given_by" : PySem.Str), ("given_in" : PySem.Str), ("waits_by" : PySem.Str), ("longest_wait" : PySem.Str), ("RANK" : PySem.Str), ("NONE" : PySem.Str), ("MOST_RANKED" : PySem.Str), ("MOST_WAITED" : PySem.Str), ("check_few" : PySem.Str), ("check_heir" : PySem.Str), ("check_heir_year" : PySem.Str), ("ranks_of" : PySem.Str)] : List PySem.Str) ++ ([("years_of_all" : PySem.Str), ("best_first" : PySem.Str), ("rank_by" : PySem.Str), ("rank_told" : PySem.Str), ("shows_rank" : PySem.Str), ("longest_by" : PySem.Str), ("fairest_of" : PySem.Str), ("fairest" : PySem.Str), ("shows_fairest" : PySem.Str), ("_law_pot" : PySem.Str), ("_law_take" : PySem.Str), ("_law_of" : PySem.Str), ("_law_cells" : PySem.Str), ("_law_some" : PySem.Str), ("_law_places" : PySem.Str), ("_law_run" : PySem.Str), ("_law_ranks" : PySem.Str), ("_law_greatest" : PySem.Str), ("_law_right" : PySem.Str)] : List PySem.Str)
theorem run (w : World) : HandSHeadRun.RunEq R (PySem.W.view R.prog [64]) hk ob 6000 loose w := by
  intro os
  kernel_rfl
set_option maxHeartbeats 0 in
theorem facts {P : Program} {w : World} {K : PySem.W.Frag} {h : Heap} {mg : Str → Option Value} {f : Addr} (X : K.In h) (G : h.Ns mainGlobals mg) (hfa : mg ("law" : Str) = some (.ref f)) (c : He.SaysD fa fn K) :
    ∃ fd : FuncData, (∀ (s : Shared) (v : Value), BindsTo s fd ⟨[v], []⟩ [("script", v)]) ∧ ∀ base : Heap, K.In base → base.Ns mainGlobals mg → FnG P w K mg base 10 f fd ["script"] (spF K K59.F_law) := by
  have fr : Fr mg := ⟨He.free_ok X G (c.fact 40 (f := .free "abs") rfl), He.free_ok X G (c.fact 41 (f := .free "all") rfl), He.free_ok X G (c.fact 42 (f := .free "any") rfl), He.free_ok X G (c.fact 43 (f := .free "bool") rfl), He.free_ok X G (c.fact 44 (f := .free "dict") rfl), He.free_ok X G (c.fact 45 (f := .free "divmod") rfl), He.free_ok X G (c.fact 46 (f := .free "enumerate") rfl), He.free_ok X G (c.fact 47 (f := .free "int") rfl), He.free_ok X G (c.fact 48 (f := .free "isinstance") rfl), He.free_ok X G (c.fact 49 (f := .free "len") rfl), He.free_ok X G (c.fact 50 (f := .free "list") rfl), He.free_ok X G (c.fact 51 (f := .free "max") rfl), He.free_ok X G (c.fact 52 (f := .free "min") rfl), He.free_ok X G (c.fact 53 (f := .free "range") rfl), He.free_ok X G (c.fact 54 (f := .free "repr") rfl), He.free_ok X G (c.fact 55 (f := .free "reversed") rfl), He.free_ok X G (c.fact 56 (f := .free "set") rfl), He.free_ok X G (c.fact 57 (f := .free "sorted") rfl), He.free_ok X G (c.fact 58 (f := .free "str") rfl), He.free_ok X G (c.fact 59 (f := .free "sum") rfl), He.free_ok X G (c.fact 60 (f := .free "tuple") rfl), He.free_ok X G (c.fact 61 (f := .free "zip") rfl)⟩
  obtain ⟨fd_is_integer, D_is_integer⟩ := c.def_ 0 (d := dd "is_integer" 10) rfl
  have m_is_integer := He.glo_ok X G (c.fact 0 (f := .glo "is_integer") rfl)
  obtain ⟨fd_is_between, D_is_between⟩ := c.def_ 1 (d := dd "is_between" 11) rfl
  have m_is_between := He.glo_ok X G (c.fact 1 (f := .glo "is_between") rfl)
  obtain ⟨fd_are_between, D_are_between⟩ := c.def_ 2 (d := dd "are_between" 12) rfl
  have m_are_between := He.glo_ok X G (c.fact 2 (f := .glo "are_between") rfl)
  obtain ⟨fd_check_chairs, D_check_chairs⟩ := c.def_ 3 (d := dd "check_chairs" 21) rfl
  have m_check_chairs := He.glo_ok X G (c.fact 3 (f := .glo "check_chairs") rfl)
  obtain ⟨fd_check_old, D_check_old⟩ := c.def_ 4 (d := dd "check_old" 22) rfl
  have m_check_old := He.glo_ok X G (c.fact 4 (f := .glo "check_old") rfl)
  obtain ⟨fd_is_heir, D_is_heir⟩ := c.def_ 5 (d := dd "is_heir" 23) rfl
  have m_is_heir := He.glo_ok X G (c.fact 5 (f := .glo "is_heir") rfl)
  obtain ⟨fd_check_heirs, D_check_heirs⟩ := c.def_ 6 (d := dd "check_heirs" 24) rfl
  have m_check_heirs := He.glo_ok X G (c.fact 6 (f := .glo "check_heirs") rfl)
  obtain ⟨fd_is_rank, D_is_rank⟩ := c.def_ 7 (d := dd "is_rank" 25) rfl
  have m_is_rank := He.glo_ok X G (c.fact 7 (f := .glo "is_rank") rfl)
  obtain ⟨fd_check_town, D_check_town⟩ := c.def_ 8 (d := dd "check_town" 26) rfl
  have m_check_town := He.glo_ok X G (c.fact 8 (f := .glo "check_town") rfl)
  obtain ⟨fd_check_ranked, D_check_ranked⟩ := c.def_ 9 (d := dd "check_ranked" 27) rfl
  have m_check_ranked := He.glo_ok X G (c.fact 9 (f := .glo "check_ranked") rfl)
  obtain ⟨fd_waited_from, D_waited_from⟩ := c.def_ 10 (d := dd "waited_from" 28) rfl
  have m_waited_from := He.glo_ok X G (c.fact 10 (f := .glo "waited_from") rfl)
  obtain ⟨fd_run_of, D_run_of⟩ := c.def_ 11 (d := dd "run_of" 29) rfl
  have m_run_of := He.glo_ok X G (c.fact 11 (f := .glo "run_of") rfl)
  obtain ⟨fd_given_by, D_given_by⟩ := c.def_ 12 (d := dd "given_by" 30) rfl
  have m_given_by := He.glo_ok X G (c.fact 12 (f := .glo "given_by") rfl)
  obtain ⟨fd_given_in, D_given_in⟩ := c.def_ 13 (d := dd "given_in" 31) rfl
  have m_given_in := He.glo_ok X G (c.fact 13 (f := .glo "given_in") rfl)
  obtain ⟨fd_waits_by, D_waits_by⟩ := c.def_ 14 (d := dd "waits_by" 33) rfl
  have m_waits_by := He.glo_ok X G (c.fact 14 (f := .glo "waits_by") rfl)
  obtain ⟨fd_longest_wait, D_longest_wait⟩ := c.def_ 15 (d := dd "longest_wait" 34) rfl
  have m_longest_wait := He.glo_ok X G (c.fact 15 (f := .glo "longest_wait") rfl)
  obtain ⟨fd_check_few, D_check_few⟩ := c.def_ 16 (d := dd "check_few" 40) rfl
  have m_check_few := He.glo_ok X G (c.fact 16 (f := .glo "check_few") rfl)
  obtain ⟨fd_check_heir, D_check_heir⟩ := c.def_ 17 (d := dd "check_heir" 41) rfl
  have m_check_heir := He.glo_ok X G (c.fact 17 (f := .glo "check_heir") rfl)
  obtain ⟨fd_check_heir_year, D_check_heir_year⟩ := c.def_ 18 (d := dd "check_heir_year" 42) rfl
  have m_check_heir_year := He.glo_ok X G (c.fact 18 (f := .glo "check_heir_year") rfl)
  obtain ⟨fd_ranks_of, D_ranks_of⟩ := c.def_ 19 (d := dd "ranks_of" 43) rfl
  have m_ranks_of := He.glo_ok X G (c.fact 19 (f := .glo "ranks_of") rfl)
  obtain ⟨fd_years_of_all, D_years_of_all⟩ := c.def_ 20 (d := dd "years_of_all" 44) rfl
  have m_years_of_all := He.glo_ok X G (c.fact 20 (f := .glo "years_of_all") rfl)
  obtain ⟨fd_best_first, D_best_first⟩ := c.def_ 21 (d := dd "best_first" 45) rfl
  have m_best_first := He.glo_ok X G (c.fact 21 (f := .glo "best_first") rfl)
  obtain ⟨fd_rank_by, D_rank_by⟩ := c.def_ 22 (d := dd "rank_by" 46) rfl
  have m_rank_by := He.glo_ok X G (c.fact 22 (f := .glo "rank_by") rfl)
  obtain ⟨fd_rank_told, D_rank_told⟩ := c.def_ 23 (d := dd "rank_told" 47) rfl
  have m_rank_told := He.glo_ok X G (c.fact 23 (f := .glo "rank_told") rfl)
  obtain ⟨fd_shows_rank, D_shows_rank⟩ := c.def_ 24 (d := dd "shows_rank" 48) rfl
  have m_shows_rank := He.glo_ok X G (c.fact 24 (f := .glo "shows_rank") rfl)
  obtain ⟨fd_longest_by, D_longest_by⟩ := c.def_ 25 (d := dd "longest_by" 49) rfl
  have m_longest_by := He.glo_ok X G (c.fact 25 (f := .glo "longest_by") rfl)
  obtain ⟨fd_fairest_of, D_fairest_of⟩ := c.def_ 26 (d := dd "fairest_of" 50) rfl
  have m_fairest_of := He.glo_ok X G (c.fact 26 (f := .glo "fairest_of") rfl)
  obtain ⟨fd_fairest, D_fairest⟩ := c.def_ 27 (d := dd "fairest" 51) rfl
  have m_fairest := He.glo_ok X G (c.fact 27 (f := .glo "fairest") rfl)
  obtain ⟨fd_shows_fairest, D_shows_fairest⟩ := c.def_ 28 (d := dd "shows_fairest" 52) rfl
  have m_shows_fairest := He.glo_ok X G (c.fact 28 (f := .glo "shows_fairest") rfl)
  obtain ⟨fd__law_pot, D__law_pot⟩ := c.def_ 29 (d := dd "_law_pot" 54) rfl
  have m__law_pot := He.glo_ok X G (c.fact 29 (f := .glo "_law_pot") rfl)
  obtain ⟨fd__law_take, D__law_take⟩ := c.def_ 30 (d := dd "_law_take" 55) rfl
  have m__law_take := He.glo_ok X G (c.fact 30 (f := .glo "_law_take") rfl)
  obtain ⟨fd__law_of, D__law_of⟩ := c.def_ 31 (d := dd "_law_of" 56) rfl
  have m__law_of := He.glo_ok X G (c.fact 31 (f := .glo "_law_of") rfl)
  obtain ⟨fd__law_cells, D__law_cells⟩ := c.def_ 32 (d := dd "_law_cells" 57) rfl
  have m__law_cells := He.glo_ok X G (c.fact 32 (f := .glo "_law_cells") rfl)
  obtain ⟨fd__law_some, D__law_some⟩ := c.def_ 33 (d := dd "_law_some" 58) rfl
  have m__law_some := He.glo_ok X G (c.fact 33 (f := .glo "_law_some") rfl)
  obtain ⟨fd__law_places, D__law_places⟩ := c.def_ 34 (d := dd "_law_places" 59) rfl
  have m__law_places := He.glo_ok X G (c.fact 34 (f := .glo "_law_places") rfl)
  obtain ⟨fd__law_run, D__law_run⟩ := c.def_ 35 (d := dd "_law_run" 60) rfl
  have m__law_run := He.glo_ok X G (c.fact 35 (f := .glo "_law_run") rfl)
  obtain ⟨fd__law_ranks, D__law_ranks⟩ := c.def_ 36 (d := dd "_law_ranks" 61) rfl
  have m__law_ranks := He.glo_ok X G (c.fact 36 (f := .glo "_law_ranks") rfl)
  obtain ⟨fd__law_greatest, D__law_greatest⟩ := c.def_ 37 (d := dd "_law_greatest" 62) rfl
  have m__law_greatest := He.glo_ok X G (c.fact 37 (f := .glo "_law_greatest") rfl)
  obtain ⟨fd__law_right, D__law_right⟩ := c.def_ 38 (d := dd "_law_right" 63) rfl
  have m__law_right := He.glo_ok X G (c.fact 38 (f := .glo "_law_right") rfl)
  obtain ⟨fd_law, D_law⟩ := c.def_ 39 (d := dd "law" 64) rfl
  have c_MOST_CHAIRS := He.int_ok X G (c.fact 62 (f := .int "MOST_CHAIRS" 6) rfl)
  have c_LAST := He.int_ok X G (c.fact 63 (f := .int "LAST" 60) rfl)
  have c_MOST_ENDED := He.int_ok X G (c.fact 64 (f := .int "MOST_ENDED" 40) rfl)
  have c_MOST_LIFE := He.int_ok X G (c.fact 65 (f := .int "MOST_LIFE" 40) rfl)
  have c_MOST_WAIT := He.int_ok X G (c.fact 66 (f := .int "MOST_WAIT" 10) rfl)
  have c_THREE := He.int_ok X G (c.fact 67 (f := .int "THREE" 3) rfl)
  have c_MOST_HEIRS := He.int_ok X G (c.fact 68 (f := .int "MOST_HEIRS" 10) rfl)
  have c_MOST_RANKED := He.int_ok X G (c.fact 69 (f := .int "MOST_RANKED" 5) rfl)
  have c_NONE := He.str_ok X G (c.fact 70 (f := .str "NONE" "none") rfl)
  have c_RANK := He.str_ok X G (c.fact 71 (f := .str "RANK" "rank") rfl)
  have c_MOST_WAITED := He.int_ok X G (c.fact 72 (f := .int "MOST_WAITED" 100) rfl)
  have e := hfa.symm.trans (He.glo_ok X G (c.fact 39 (f := .glo "law") rfl))
  cases e
  have b := FunD.bindsA (ps := ["script"]) D_law fun _ _ _ _ _ _ us hl => match us, hl with | [_], _ => rfl
  refine ⟨fd_law, fun s v => b s [v] rfl, fun base _ _ => ?_⟩
  have h_is_integer : Has P w K mg base 1 "is_integer" K59.F_is_integer := K59.ok_is_integer D_is_integer m_is_integer fr
  have h_is_between : Has P w K mg base 2 "is_between" K59.F_is_between := K59.ok_is_between D_is_between m_is_between fr h_is_integer
  have h_are_between : Has P w K mg base 3 "are_between" K59.F_are_between := K59.ok_are_between D_are_between m_are_between fr h_is_between
  have h_check_chairs : Has P w K mg base 3 "check_chairs" K59.F_check_chairs := K59.ok_check_chairs D_check_chairs m_check_chairs fr h_is_between c_MOST_CHAIRS
  have h_check_old : Has P w K mg base 4 "check_old" K59.F_check_old := K59.ok_check_old D_check_old m_check_old fr h_are_between c_LAST
  have h_is_heir : Has P w K mg base 3 "is_heir" K59.F_is_heir := K59.ok_is_heir D_is_heir m_is_heir fr h_is_between c_MOST_ENDED c_MOST_LIFE c_MOST_WAIT c_THREE
  have h_check_heirs : Has P w K mg base 4 "check_heirs" K59.F_check_heirs := K59.ok_check_heirs D_check_heirs m_check_heirs fr h_is_heir c_MOST_HEIRS
  have h_is_rank : Has P w K mg base 4 "is_rank" K59.F_is_rank := K59.ok_is_rank D_is_rank m_is_rank fr h_are_between
  have h_check_town : Has P w K mg base 5 "check_town" K59.F_check_town := K59.ok_check_town D_check_town m_check_town fr h_check_chairs h_check_heirs h_check_old
  have h_check_ranked : Has P w K mg base 6 "check_ranked" K59.F_check_ranked := K59.ok_check_ranked D_check_ranked m_check_ranked fr h_check_town h_is_rank
  have h_waited_from : Has P w K mg base 1 "waited_from" K59.F_waited_from := K59.ok_waited_from D_waited_from m_waited_from fr
  have h_run_of : Has P w K mg base 2 "run_of" K59.F_run_of := K59.ok_run_of D_run_of m_run_of fr h_waited_from c_LAST
  have h_given_by : Has P w K mg base 3 "given_by" K59.F_given_by := K59.ok_given_by D_given_by m_given_by fr h_run_of
  have h_given_in : Has P w K mg base 7 "given_in" K59.F_given_in := K59.ok_given_in D_given_in m_given_in fr h_check_ranked h_given_by
  have h_waits_by : Has P w K mg base 2 "waits_by" K59.F_waits_by := K59.ok_waits_by D_waits_by m_waits_by fr h_waited_from
  have h_longest_wait : Has P w K mg base 7 "longest_wait" K59.F_longest_wait := K59.ok_longest_wait D_longest_wait m_longest_wait fr h_check_ranked h_given_by h_waits_by
  have h_check_few : Has P w K mg base 6 "check_few" K59.F_check_few := K59.ok_check_few D_check_few m_check_few fr h_check_town c_MOST_RANKED
  have h_check_heir : Has P w K mg base 6 "check_heir" K59.F_check_heir := K59.ok_check_heir D_check_heir m_check_heir fr h_check_town h_is_between
  have h_check_heir_year : Has P w K mg base 7 "check_heir_year" K59.F_check_heir_year := K59.ok_check_heir_year D_check_heir_year m_check_heir_year fr h_check_few h_check_heir h_is_between c_LAST
  have h_ranks_of : Has P w K mg base 1 "ranks_of" K59.F_ranks_of := K59.ok_ranks_of D_ranks_of m_ranks_of fr
  have h_years_of_all : Has P w K mg base 4 "years_of_all" K59.F_years_of_all := K59.ok_years_of_all D_years_of_all m_years_of_all fr h_given_by h_ranks_of
  have h_best_first : Has P w K mg base 7 "best_first" K59.F_best_first := K59.ok_best_first D_best_first m_best_first fr h_check_few h_check_heir h_years_of_all
  have h_rank_by : Has P w K mg base 5 "rank_by" K59.F_rank_by := K59.ok_rank_by D_rank_by m_rank_by fr h_years_of_all
  have h_rank_told : Has P w K mg base 8 "rank_told" K59.F_rank_told := K59.ok_rank_told D_rank_told m_rank_told fr h_check_heir_year h_rank_by c_NONE c_RANK
  have h_shows_rank : Has P w K mg base 8 "shows_rank" K59.F_shows_rank := K59.ok_shows_rank D_shows_rank m_shows_rank fr h_check_heir_year h_given_by h_is_rank h_rank_by c_NONE c_RANK
  have h_longest_by : Has P w K mg base 4 "longest_by" K59.F_longest_by := K59.ok_longest_by D_longest_by m_longest_by fr h_given_by h_waits_by
  have h_fairest_of : Has P w K mg base 5 "fairest_of" K59.F_fairest_of := K59.ok_fairest_of D_fairest_of m_fairest_of fr h_longest_by h_ranks_of
  have h_fairest : Has P w K mg base 7 "fairest" K59.F_fairest := K59.ok_fairest D_fairest m_fairest fr h_check_few h_fairest_of
  have h_shows_fairest : Has P w K mg base 7 "shows_fairest" K59.F_shows_fairest := K59.ok_shows_fairest D_shows_fairest m_shows_fairest fr h_check_few h_fairest_of h_is_between h_is_rank h_longest_by c_MOST_WAITED
  have h__law_pot : Has P w K mg base 1 "_law_pot" K59.F__law_pot := K59.ok__law_pot D__law_pot m__law_pot fr
  have h__law_take : Has P w K mg base 1 "_law_take" K59.F__law_take := K59.ok__law_take D__law_take m__law_take fr
  have h__law_of : Has P w K mg base 2 "_law_of" K59.F__law_of := K59.ok__law_of D__law_of m__law_of fr h__law_take
  have h__law_cells : Has P w K mg base 1 "_law_cells" K59.F__law_cells := K59.ok__law_cells D__law_cells m__law_cells fr
  have h__law_some : Has P w K mg base 2 "_law_some" K59.F__law_some := K59.ok__law_some D__law_some m__law_some fr h__law_take
  have h__law_places : Has P w K mg base 1 "_law_places" K59.F__law_places := K59.ok__law_places D__law_places m__law_places fr
  have h__law_run : Has P w K mg base 2 "_law_run" K59.F__law_run := K59.ok__law_run D__law_run m__law_run fr h__law_places
  have h__law_ranks : Has P w K mg base 1 "_law_ranks" K59.F__law_ranks := K59.ok__law_ranks D__law_ranks m__law_ranks fr
  have h__law_greatest : Has P w K mg base 1 "_law_greatest" K59.F__law_greatest := K59.ok__law_greatest D__law_greatest m__law_greatest fr
  have h__law_right : Has P w K mg base 9 "_law_right" K59.F__law_right := K59.ok__law_right D__law_right m__law_right fr h__law_greatest h__law_of h__law_places h__law_ranks h__law_run h__law_some h__law_take h_best_first h_fairest h_given_in h_longest_wait h_rank_told h_shows_fairest h_shows_rank
  exact K59.g_law D_law fr h__law_cells h__law_pot h__law_right
end HeadK59
open PySem PySem.W PySem.Calls PyProof.Rows
set_option maxRecDepth 100000 in
set_option maxHeartbeats 0 in
theorem PySem.Challenge.cw_whotaughtwhom_k59_whole_ranks_of_heirs_g_holds : PySem.Challenge.rw_whotaughtwhom_k59_whole_ranks_of_heirs_g.Holds := by
  w_on; o_law
  refine HandSHeadRun.head_any (r := OpenLaw.row PySem.Challenge.rw_whotaughtwhom_k59_whole_ranks_of_heirs_g) (q := view (OpenLaw.row PySem.Challenge.rw_whotaughtwhom_k59_whole_ranks_of_heirs_g).prog [64]) (H := HeadK59.hk) (ob := HeadK59.ob) (M := 6000) (loose := HeadK59.loose) (d := HandSHeadRun.topDef (OpenLaw.row PySem.Challenge.rw_whotaughtwhom_k59_whole_ranks_of_heirs_g).prog 64) (kwd := []) HeadK59.ob_eq
    (by kernel_rfl) (fun s => by kernel_rfl) HeadK59.run (by kernel_rfl) (by kernel_rfl) (by kernel_rfl) (by rfl) (by first | assumption | decide +kernel) (by decide +kernel) ⟨rfl, rfl, rfl, rfl, rfl, by decide +kernel⟩ ?hw ?hc
  case hw => w_witness2
  case hc =>
    refine Dn.walk_top (l := PySem.Challenge.rw_whotaughtwhom_k59_whole_ranks_of_heirs_g) (n := 63) (k := 10) (x := "script") (F := K59.F_law) rfl (by decide) (by kernel_rfl) ⟨rfl, by decide, by decide⟩ ?F (fun zs _ => K59.law_ok zs)
    intro w mg fa h Y G hmg0
    obtain ⟨K, KX, c⟩ := Y
    have hmg : mg ("law" : PySem.Str) = some (.ref fa) := by
      have e : (HandSHeadRun.topDef (OpenLaw.row PySem.Challenge.rw_whotaughtwhom_k59_whole_ranks_of_heirs_g).prog 64).name = ("law" : PySem.Str) := by kernel_rfl
      rw [← e]
      exact hmg0
    obtain ⟨fd, hb, hF⟩ := HeadK59.facts (P := (PySem.Challenge.rw_whotaughtwhom_k59_whole_ranks_of_heirs_g).prog) (w := w) KX G hmg c
    exact ⟨K, fd, KX, hb, hF⟩
