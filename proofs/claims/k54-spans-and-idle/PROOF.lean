import PyProof.Rows.All
import Wide.All
import OpenK.AllK
import Wide.FinOn
import HandS.ForMost
import HandS.ForExc
import HandS.TupMul
import HandS.Gcd
import HandS.Wide
import HandS.IsInst
import HandS.TupLe
import HandS.TupAny
import HandS.Deep
import HandS.Style
import HandS.Rev
import PyProof.ListRange
import HandS.SortInts
import KE.KTupSum
import PyProof.WalkInts
import HandS.Text
import HandS.RaiseMore
import HandS.Words
import HandS.WordsExc
import HandS.ExcOwn
import HandS.ExcCtx
import HandS.Comp
import HandS.Zip
import HandS.Iter
import HandS.Conv
import HandS.GenList
import HandS.AnyAll
import PyProof.GenArm
import PyProof.GenComp
import PyProof.ConsumeS
import PyProof.CodeObjX
import KE.KNest
import KE.KNestM
import HandS.EndTab
import HandS.EndOwn
import HandS.Defaults
import HandS.TryMany
import HandS.HeadHook4
import HandS.HeadWalk
import HandS.HeadEnd
import HandS.Head2
import KE.GoesMore
import KE.GoesEnum
import HandS.ExcIs
import KE.KRevSl
import KE.DataFind
import PyProof.Rows.TupIter
import HandS.HotCalls
import HandS.TryOnly
import HandS.Head3
import PySem.Challenge.RW_staysbelow_k54_spans_and_idle_wishes
set_option Elab.async false
set_option linter.all false
set_option maxRecDepth 100000
set_option maxHeartbeats 4000000
namespace PV
open PySem PySem.Spec PyProof.Rows L2

/-! ## values -/
/-- a pure value; a list's flag: held by one place alone (it may be changed there) -/
inductive D where
  | non | bl (b : Bool) | int (i : Int) | str (x : Str) | tup (l : List D) | lst (o : Bool) (l : List D)
  /-- the script -/
  | scr (l : List D)
  /-- a thing of which only the address is known (an error that was caught) -/
  | adr (a : Addr)
deriving Inhabited

mutual
/-- frozen: every list within is shared -/
def D.fz : D → D
  | .lst _ l => .lst false (fzs l)
  | .tup l => .tup (fzs l)
  | .scr l => .scr (fzs l)
  | d => d
def fzs : List D → List D
  | [] => []
  | d :: l => d.fz :: fzs l
end
theorem fzs_map (l : List D) : fzs l = l.map D.fz := by
  induction l with
  | nil => rfl
  | cons d l ih => simp [fzs, ih]

mutual
def D.isFz : D → Bool
  | .lst o l => !o && isFzs l
  | .tup l => isFzs l
  | .scr l => isFzs l
  | _ => true
def isFzs : List D → Bool
  | [] => true
  | d :: l => d.isFz && isFzs l
end
mutual
theorem D.fz_of : ∀ d : D, d.isFz = true → d.fz = d
  | .lst o l, h => by
    simp only [D.isFz, Bool.and_eq_true, Bool.not_eq_true'] at h
    simp only [D.fz, fzs_of l h.2, h.1]
  | .tup l, h => by
    simp only [D.isFz] at h
    simp only [D.fz, fzs_of l h]
  | .scr l, h => by
    simp only [D.isFz] at h
    simp only [D.fz, fzs_of l h]
  | .non, _ => rfl
  | .bl _, _ => rfl
  | .int _, _ => rfl
  | .str _, _ => rfl
  | .adr _, _ => rfl
theorem fzs_of : ∀ l : List D, isFzs l = true → fzs l = l
  | [], _ => rfl
  | d :: l, h => by
    simp only [isFzs, Bool.and_eq_true] at h
    simp only [fzs, D.fz_of d h.1, fzs_of l h.2]
end

/-! ## how a pure value lies in the abstract heap -/
/-- a list that no one changes any more -/
def LstS (H : Hp) (F : Addr → Prop) (a : Addr) (xs : List V) : Prop := H a = some (.lst xs) ∧ F a
def ScrS (K : PySem.W.Frag) (H : Hp) (F : Addr → Prop) (a : Addr) (xs : List V) : Prop :=
  LstS H F a xs ∨ (∃ o, H a = some (.frz o (.lst xs))) ∨
    ∃ (o : Obj) (its : Array Value) (n : Nat), K.lookup a = some o ∧ o.cls = .type "list" ∧ o.dict = none ∧ o.data = .seq its n ∧ its.size ≤ sizeLine ∧ Vals xs its.toList
theorem LstS.sq {K : PySem.W.Frag} {H : Hp} {F : Addr → Prop} {a : Addr} {xs : List V} (h : LstS H F a xs) : SqL K H a xs := .inl (.inl h.1)
theorem ScrS.sq {K : PySem.W.Frag} {H : Hp} {F : Addr → Prop} {a : Addr} {xs : List V} (h : ScrS K H F a xs) : SqL K H a xs := by
  rcases h with h | ⟨o, h⟩ | h
  · exact h.sq
  · exact .inl (.inr ⟨o, h⟩)
  · exact .inr h
mutual
def Fz (K : PySem.W.Frag) (H : Hp) (F : Addr → Prop) : V → D → Prop
  | v, .non => v = .non
  | v, .bl b => v = .bl b
  | v, .int i => v = .int i
  | v, .str x => v = .str x
  | v, .adr a => v = .ref a
  | v, .tup l => ∃ a xs, v = .ref a ∧ SqT K H a xs ∧ FzL K H F xs l
  | v, .scr l => ∃ a xs, v = .ref a ∧ ScrS K H F a xs ∧ FzL K H F xs l
  | v, .lst o l => o = false ∧ ∃ a xs, v = .ref a ∧ LstS H F a xs ∧ FzL K H F xs l
def FzL (K : PySem.W.Frag) (H : Hp) (F : Addr → Prop) : List V → List D → Prop
  | xs, [] => xs = []
  | xs, d :: l => ∃ x xs', xs = x :: xs' ∧ Fz K H F x d ∧ FzL K H F xs' l
end
mutual
/- .. with what is held alone: A its lists' addresses -/
def Ow (K : PySem.W.Frag) (H : Hp) (F : Addr → Prop) : V → D → List Addr → Prop
  | v, .lst true l, A => ∃ a xs As, v = .ref a ∧ H a = some (.lst xs) ∧ A = a :: As ∧ OwL K H F xs l As
  | v, .lst false l, A => A = [] ∧ ∃ a xs, v = .ref a ∧ LstS H F a xs ∧ FzL K H F xs l
  | v, .non, A => A = [] ∧ v = .non
  | v, .bl b, A => A = [] ∧ v = .bl b
  | v, .int i, A => A = [] ∧ v = .int i
  | v, .str x, A => A = [] ∧ v = .str x
  | v, .adr a, A => A = [] ∧ v = .ref a
  | v, .tup l, A => A = [] ∧ ∃ a xs, v = .ref a ∧ SqT K H a xs ∧ FzL K H F xs l
  | v, .scr l, A => A = [] ∧ ∃ a xs, v = .ref a ∧ ScrS K H F a xs ∧ FzL K H F xs l
def OwL (K : PySem.W.Frag) (H : Hp) (F : Addr → Prop) : List V → List D → List Addr → Prop
  | xs, [], A => xs = [] ∧ A = []
  | xs, d :: l, A => ∃ x xs' A1 A2, xs = x :: xs' ∧ A = A1 ++ A2 ∧ Ow K H F x d A1 ∧ OwL K H F xs' l A2
end
/-- the slots -/
def EnvR (K : PySem.W.Frag) (H : Hp) (F : Addr → Prop) : L2.St → List (Option D) → List Addr → Prop
  | σ, [], B => σ = [] ∧ B = []
  | σ, none :: e, B => ∃ s σ', σ = s :: σ' ∧ EnvR K H F σ' e B
  | σ, some d :: e, B => ∃ v σ' A B', σ = some v :: σ' ∧ B = A ++ B' ∧ Ow K H F v d A ∧ EnvR K H F σ' e B'

abbrev Env := List (Option D)
/-- what may be held: no address twice, none frozen -/
def Dis (F : Addr → Prop) (B : List Addr) : Prop := B.Nodup ∧ ∀ a ∈ B, ¬ F a
/-- from B, or new -/
def Sub (A B : List Addr) (H : Hp) : Prop := ∀ a ∈ A, a ∈ B ∨ H a = none
def TabK (H : Hp) (P : Addr) : Prop := ∃ ps : Array Value, H P = some (.tbl ps) ∧ TriplesOk ps.toList
/-- a step that may change the lists at B, freeze them, and make new things -/
structure Ext (B : List Addr) (H : Hp) (F : Addr → Prop) (H' : Hp) (F' : Addr → Prop) : Prop where
  tup : ∀ a xs, H a = some (.tup xs) → H' a = some (.tup xs)
  frz : ∀ a o u, H a = some (.frz o u) → H' a = some (.frz o u)
  lst : ∀ a xs, H a = some (.lst xs) → a ∉ B → H' a = some (.lst xs)
  fr : ∀ a, H' a = none → H a = none
  tab : ∀ a, TabK H a → TabK H' a
  mono : ∀ a, F a → F' a
  new : ∀ a, F' a → F a ∨ a ∈ B ∨ H a = none
  tr : ∀ a, F' a → ¬ F a → H' a ≠ none
section
variable {K : PySem.W.Frag} {H H1 H2 H' : Hp} {F F1 F2 F' : Addr → Prop} {B B1 B2 : List Addr}
theorem Ext.refl : Ext B H F H F := ⟨fun _ _ h => h, fun _ _ _ h => h, fun _ _ h _ => h, fun _ h => h, fun _ h => h, fun _ h => h, fun _ h => .inl h, fun _ h n => absurd h n⟩
theorem Ext.trans (x : Ext B H F H1 F1) (y : Ext B1 H1 F1 H2 F2) (s : Sub B1 B H) : Ext B H F H2 F2 where
  tup := fun a xs h => y.tup a xs (x.tup a xs h)
  frz := fun a o u h => y.frz a o u (x.frz a o u h)
  lst := fun a xs h n => y.lst a xs (x.lst a xs h n) fun z => (s a z).elim n fun q => by rw [q] at h; cases h
  fr := fun a h => x.fr a (y.fr a h)
  tab := fun a h => y.tab a (x.tab a h)
  mono := fun a h => y.mono a (x.mono a h)
  new := fun a h => by
    rcases y.new a h with h | h | h
    · exact x.new a h
    · exact (s a h).elim (fun z => .inr (.inl z)) fun z => .inr (.inr z)
    · exact .inr (.inr (x.fr a h))
  tr := fun a h n z => by
    by_cases q : F1 a
    · exact x.tr a q n (y.fr a z)
    · exact y.tr a h q z
theorem Sub.refl : Sub B B H := fun _ h => .inl h
theorem Sub.trans (s : Sub B1 B H) (t : Sub B2 B1 H1) (x : ∀ a, H1 a = none → H a = none) : Sub B2 B H := fun a h =>
  (t a h).elim (fun z => s a z) fun z => .inr (x a z)
theorem Sub.app (s : Sub B1 B H) (t : Sub B2 B H) : Sub (B1 ++ B2) B H := fun a h => (List.mem_append.mp h).elim (s a) (t a)
theorem Sub.left (s : Sub (B1 ++ B2) B H) : Sub B1 B H := fun a h => s a (List.mem_append_left _ h)
theorem Sub.right (s : Sub (B1 ++ B2) B H) : Sub B2 B H := fun a h => s a (List.mem_append_right _ h)
theorem Sub.nil : Sub [] B H := fun a h => by cases h
theorem Dis.left (d : Dis F (B1 ++ B2)) : Dis F B1 := ⟨(List.nodup_append.mp d.1).1, fun a h => d.2 a (List.mem_append_left _ h)⟩
theorem Dis.right (d : Dis F (B1 ++ B2)) : Dis F B2 := ⟨(List.nodup_append.mp d.1).2.1, fun a h => d.2 a (List.mem_append_right _ h)⟩
theorem Dis.apart (d : Dis F (B1 ++ B2)) : ∀ a ∈ B1, a ∉ B2 := fun a h z => (List.nodup_append.mp d.1).2.2 a h a z rfl
theorem Dis.apart' (d : Dis F (B1 ++ B2)) : ∀ a ∈ B2, a ∉ B1 := fun a h z => (List.nodup_append.mp d.1).2.2 a z a h rfl
theorem Dis.app (d : Dis F B1) (e : Dis F B2) (n : ∀ a ∈ B1, a ∉ B2) : Dis F (B1 ++ B2) :=
  ⟨List.nodup_append.mpr ⟨d.1, e.1, fun a h b z q => n a h (q ▸ z)⟩, fun a h => (List.mem_append.mp h).elim (d.2 a) (e.2 a)⟩
theorem Dis.nil : Dis F [] := ⟨List.nodup_nil, fun a h => by cases h⟩
theorem Dis.comm (d : Dis F (B1 ++ B2)) : Dis F (B2 ++ B1) := d.right.app d.left d.apart'

mutual
theorem Fz.ext (x : Ext B H F H' F') (n : ∀ a, F a → a ∉ B) : ∀ (d : D) (v : V), Fz K H F v d → Fz K H' F' v d
  | .non, _, h => by simpa only [Fz] using h
  | .bl _, _, h => by simpa only [Fz] using h
  | .int _, _, h => by simpa only [Fz] using h
  | .str _, _, h => by simpa only [Fz] using h
  | .adr _, _, h => by simpa only [Fz] using h
  | .tup l, v, h => by
    simp only [Fz] at h ⊢
    obtain ⟨a, xs, e, q, r⟩ := h
    refine ⟨a, xs, e, ?_, FzL.ext x n l xs r⟩
    rcases q with (q | ⟨o, q⟩) | q
    · exact .inl (.inl (x.tup a xs q))
    · exact .inl (.inr ⟨o, x.frz a o _ q⟩)
    · exact .inr q
  | .lst o l, v, h => by
    simp only [Fz] at h ⊢
    obtain ⟨h0, a, xs, e, q, r⟩ := h
    refine ⟨h0, a, xs, e, ?_, FzL.ext x n l xs r⟩
    exact ⟨x.lst a xs q.1 (n a q.2), x.mono a q.2⟩
  | .scr l, v, h => by
    simp only [Fz] at h ⊢
    obtain ⟨a, xs, e, q, r⟩ := h
    refine ⟨a, xs, e, ?_, FzL.ext x n l xs r⟩
    rcases q with q | ⟨o, q⟩ | q
    · exact .inl ⟨x.lst a xs q.1 (n a q.2), x.mono a q.2⟩
    · exact .inr (.inl ⟨o, x.frz a o _ q⟩)
    · exact .inr (.inr q)
theorem FzL.ext (x : Ext B H F H' F') (n : ∀ a, F a → a ∉ B) : ∀ (l : List D) (xs : List V), FzL K H F xs l → FzL K H' F' xs l
  | [], _, h => by simpa only [FzL] using h
  | d :: l, xs, h => by
    simp only [FzL] at h ⊢
    obtain ⟨y, ys, e, q, r⟩ := h
    exact ⟨y, ys, e, Fz.ext x n d y q, FzL.ext x n l ys r⟩
end
theorem LstS.ext (x : Ext B H F H' F') (n : ∀ a, F a → a ∉ B) {a : Addr} {xs : List V} (q : LstS H F a xs) : LstS H' F' a xs := ⟨x.lst a xs q.1 (n a q.2), x.mono a q.2⟩
theorem ScrS.ext (x : Ext B H F H' F') (n : ∀ a, F a → a ∉ B) {a : Addr} {xs : List V} (q : ScrS K H F a xs) : ScrS K H' F' a xs := by
  rcases q with q | ⟨o, q⟩ | q
  · exact .inl (q.ext x n)
  · exact .inr (.inl ⟨o, x.frz a o _ q⟩)
  · exact .inr (.inr q)
theorem sqT_ext (x : Ext B H F H' F') {a : Addr} {xs : List V} (q : SqT K H a xs) : SqT K H' a xs := by
  rcases q with (q | ⟨o, q⟩) | q
  · exact .inl (.inl (x.tup a xs q))
  · exact .inl (.inr ⟨o, x.frz a o _ q⟩)
  · exact .inr q
mutual
theorem Ow.ext (x : Ext B H F H' F') (n : ∀ a, F a → a ∉ B) : ∀ (d : D) (v : V) (A : List Addr), (∀ a ∈ A, a ∉ B) → Ow K H F v d A → Ow K H' F' v d A
  | .non, _, _, _, h => by simpa only [Ow] using h
  | .bl _, _, _, _, h => by simpa only [Ow] using h
  | .int _, _, _, _, h => by simpa only [Ow] using h
  | .str _, _, _, _, h => by simpa only [Ow] using h
  | .adr _, _, _, _, h => by simpa only [Ow] using h
  | .tup l, v, _, _, h => by
    simp only [Ow] at h ⊢
    obtain ⟨h0, a, xs, e, q, r⟩ := h
    exact ⟨h0, a, xs, e, sqT_ext x q, FzL.ext x n l xs r⟩
  | .scr l, v, _, _, h => by
    simp only [Ow] at h ⊢
    obtain ⟨h0, a, xs, e, q, r⟩ := h
    exact ⟨h0, a, xs, e, q.ext x n, FzL.ext x n l xs r⟩
  | .lst false l, v, _, _, h => by
    simp only [Ow] at h ⊢
    obtain ⟨h0, a, xs, e, q, r⟩ := h
    exact ⟨h0, a, xs, e, q.ext x n, FzL.ext x n l xs r⟩
  | .lst true l, v, A, nA, h => by
    simp only [Ow] at h ⊢
    obtain ⟨a, xs, As, e, q, eA, r⟩ := h
    subst eA
    exact ⟨a, xs, As, e, x.lst a xs q (nA a List.mem_cons_self), rfl, OwL.ext x n l xs As (fun b hb => nA b (List.mem_cons_of_mem _ hb)) r⟩
theorem OwL.ext (x : Ext B H F H' F') (n : ∀ a, F a → a ∉ B) : ∀ (l : List D) (xs : List V) (A : List Addr), (∀ a ∈ A, a ∉ B) → OwL K H F xs l A → OwL K H' F' xs l A
  | [], _, _, _, h => by simpa only [OwL] using h
  | d :: l, xs, A, nA, h => by
    simp only [OwL] at h ⊢
    obtain ⟨y, ys, A1, A2, e, eA, q, r⟩ := h
    subst eA
    exact ⟨y, ys, A1, A2, e, rfl, Ow.ext x n d y A1 (fun a ha => nA a (List.mem_append_left _ ha)) q, OwL.ext x n l ys A2 (fun a ha => nA a (List.mem_append_right _ ha)) r⟩
end
theorem EnvR.ext (x : Ext B H F H' F') (n : ∀ a, F a → a ∉ B) : ∀ (e : Env) (σ : L2.St) (A : List Addr), (∀ a ∈ A, a ∉ B) → EnvR K H F σ e A → EnvR K H' F' σ e A
  | [], _, _, _, h => by simpa only [EnvR] using h
  | none :: e, σ, A, nA, h => by
    simp only [EnvR] at h ⊢
    obtain ⟨s, σ', q, r⟩ := h
    exact ⟨s, σ', q, EnvR.ext x n e σ' A nA r⟩
  | some d :: e, σ, A, nA, h => by
    simp only [EnvR] at h ⊢
    obtain ⟨v, σ', A1, B', q, eA, o, r⟩ := h
    subst eA
    exact ⟨v, σ', A1, B', q, rfl, Ow.ext x n d v A1 (fun a ha => nA a (List.mem_append_left _ ha)) o, EnvR.ext x n e σ' B' (fun a ha => nA a (List.mem_append_right _ ha)) r⟩
/- what is held is there -/
mutual
theorem Ow.there : ∀ (d : D) (v : V) (A : List Addr), Ow K H F v d A → ∀ a ∈ A, ∃ xs, H a = some (.lst xs)
  | .non, _, _, h, a, ha => by simp only [Ow] at h; rw [h.1] at ha; cases ha
  | .bl _, _, _, h, a, ha => by simp only [Ow] at h; rw [h.1] at ha; cases ha
  | .int _, _, _, h, a, ha => by simp only [Ow] at h; rw [h.1] at ha; cases ha
  | .str _, _, _, h, a, ha => by simp only [Ow] at h; rw [h.1] at ha; cases ha
  | .adr _, _, _, h, a, ha => by simp only [Ow] at h; rw [h.1] at ha; cases ha
  | .tup _, _, _, h, a, ha => by simp only [Ow] at h; rw [h.1] at ha; cases ha
  | .scr _, _, _, h, a, ha => by simp only [Ow] at h; rw [h.1] at ha; cases ha
  | .lst false _, _, _, h, a, ha => by simp only [Ow] at h; rw [h.1] at ha; cases ha
  | .lst true l, v, A, h, a, ha => by
    simp only [Ow] at h
    obtain ⟨b, xs, As, e, q, eA, r⟩ := h
    subst eA
    rcases List.mem_cons.mp ha with rfl | ha
    · exact ⟨xs, q⟩
    · exact OwL.there l xs As r a ha
theorem OwL.there : ∀ (l : List D) (xs : List V) (A : List Addr), OwL K H F xs l A → ∀ a ∈ A, ∃ xs, H a = some (.lst xs)
  | [], _, _, h, a, ha => by simp only [OwL] at h; rw [h.2] at ha; cases ha
  | d :: l, xs, A, h, a, ha => by
    simp only [OwL] at h
    obtain ⟨y, ys, A1, A2, e, eA, q, r⟩ := h
    subst eA
    exact (List.mem_append.mp ha).elim (Ow.there d y A1 q a) (OwL.there l ys A2 r a)
end
theorem EnvR.there : ∀ (e : Env) (σ : L2.St) (A : List Addr), EnvR K H F σ e A → ∀ a ∈ A, ∃ xs, H a = some (.lst xs)
  | [], _, _, h, a, ha => by simp only [EnvR] at h; rw [h.2] at ha; cases ha
  | none :: e, σ, A, h, a, ha => by
    simp only [EnvR] at h
    obtain ⟨s, σ', q, r⟩ := h
    exact EnvR.there e σ' A r a ha
  | some d :: e, σ, A, h, a, ha => by
    simp only [EnvR] at h
    obtain ⟨v, σ', A1, B', q, eA, o, r⟩ := h
    subst eA
    exact (List.mem_append.mp ha).elim (Ow.there d v A1 o a) (EnvR.there e σ' B' r a)
end
end PV
set_option Elab.async false
set_option linter.all false
set_option maxRecDepth 100000
set_option maxHeartbeats 4000000
namespace PV
open PySem PySem.Spec PyProof.Rows L2
section
variable {K : PySem.W.Frag} {H H1 H2 H' : Hp} {F F1 F2 F' : Addr → Prop} {B B1 B2 A : List Addr}
theorem Dis.perm (d : Dis F B) (p : B.Perm B1) : Dis F B1 := ⟨p.nodup_iff.mp d.1, fun a h => d.2 a (p.mem_iff.mpr h)⟩
theorem Dis.sub (d : Dis F B) (p : B1.Sublist B) : Dis F B1 := ⟨d.1.sublist p, fun a h => d.2 a (p.subset h)⟩
theorem Sub.perm (s : Sub B1 B H) (p : B1.Perm B2) : Sub B2 B H := fun a h => s a (p.mem_iff.mpr h)
theorem Sub.of (p : ∀ a ∈ B1, a ∈ B) : Sub B1 B H := fun a h => .inl (p a h)
theorem Ext.wk (x : Ext B H F H' F') (s : ∀ a ∈ B, a ∈ B1) : Ext B1 H F H' F' :=
  ⟨x.tup, x.frz, fun a xs h n => x.lst a xs h fun z => n (s a z), x.fr, x.tab, x.mono, fun a h => (x.new a h).imp id (Or.imp (s a) id), x.tr⟩
/-- what is held becomes shared -/
theorem Ext.freeze (s : ∀ a ∈ A, a ∈ B) (t : ∀ a ∈ A, H a ≠ none) : Ext B H F H (fun a => F a ∨ a ∈ A) :=
  ⟨fun _ _ h => h, fun _ _ _ h => h, fun _ _ h _ => h, fun _ h => h, fun _ h => h, fun _ h => .inl h, fun a h => h.imp id fun z => .inl (s a z), fun a h n => t a (h.resolve_left n)⟩
theorem Dis.notF (d : Dis F B) : ∀ a, F a → a ∉ B := fun a h z => d.2 a z h

theorem EnvR.len : ∀ (e : Env) (σ : L2.St) (B : List Addr), EnvR K H F σ e B → σ.length = e.length
  | [], _, _, h => by simp only [EnvR] at h; simp [h.1]
  | none :: e, σ, B, h => by
    simp only [EnvR] at h
    obtain ⟨s, σ', rfl, r⟩ := h
    simp [EnvR.len e σ' B r]
  | some d :: e, σ, B, h => by
    simp only [EnvR] at h
    obtain ⟨v, σ', A, B', rfl, _, _, r⟩ := h
    simp [EnvR.len e σ' B' r]
/-- a slot's value is taken out -/
theorem EnvR.take : ∀ (e : Env) (σ : L2.St) (B : List Addr) (i : Nat) (d : D), EnvR K H F σ e B → e[i]? = some (some d) →
    ∃ v A B', σ[i]? = some (some v) ∧ Ow K H F v d A ∧ B.Perm (A ++ B') ∧ EnvR K H F σ (e.set i none) B'
  | [], _, _, _, _, _, h => by simp at h
  | none :: e, σ, B, 0, d, h, q => by simp at q
  | none :: e, σ, B, i + 1, d, h, q => by
    simp only [EnvR] at h
    obtain ⟨s, σ', rfl, r⟩ := h
    obtain ⟨v, A, B', h1, h2, h3, h4⟩ := EnvR.take e σ' B i d r (by simpa using q)
    refine ⟨v, A, B', by simpa using h1, h2, h3, ?_⟩
    simp only [List.set_cons_succ, EnvR]
    exact ⟨s, σ', rfl, h4⟩
  | some d' :: e, σ, B, 0, d, h, q => by
    simp at q
    subst q
    simp only [EnvR] at h
    obtain ⟨v, σ', A, B', rfl, rfl, o, r⟩ := h
    refine ⟨v, A, B', by simp, o, .refl _, ?_⟩
    simp only [List.set_cons_zero, EnvR]
    exact ⟨some v, σ', rfl, r⟩
  | some d' :: e, σ, B, i + 1, d, h, q => by
    simp only [EnvR] at h
    obtain ⟨w, σ', A', C, rfl, rfl, o, r⟩ := h
    obtain ⟨v, A, B', h1, h2, h3, h4⟩ := EnvR.take e σ' C i d r (by simpa using q)
    refine ⟨v, A, A' ++ B', by simpa using h1, h2, ?_, ?_⟩
    · refine (List.Perm.append_left A' h3).trans ?_
      rw [← List.append_assoc, ← List.append_assoc]
      exact List.Perm.append_right B' List.perm_append_comm
    · simp only [List.set_cons_succ, EnvR]
      exact ⟨w, σ', A', B', rfl, rfl, o, h4⟩
/-- .. and put in (σ too) -/
theorem EnvR.put {v : V} {d : D} {A : List Addr} (ov : Ow K H F v d A) : ∀ (e : Env) (σ : L2.St) (B : List Addr) (i : Nat), EnvR K H F σ e B → e[i]? = some none →
    ∃ B', EnvR K H F (σ.set i (some v)) (e.set i (some d)) B' ∧ B'.Perm (A ++ B)
  | [], _, _, _, _, h => by simp at h
  | none :: e, σ, B, 0, h, q => by
    simp only [EnvR] at h
    obtain ⟨s, σ', rfl, r⟩ := h
    refine ⟨A ++ B, ?_, .refl _⟩
    simp only [List.set_cons_zero, EnvR]
    exact ⟨v, σ', A, B, rfl, rfl, ov, r⟩
  | none :: e, σ, B, i + 1, h, q => by
    simp only [EnvR] at h
    obtain ⟨s, σ', rfl, r⟩ := h
    obtain ⟨B', h1, h2⟩ := EnvR.put ov e σ' B i r (by simpa using q)
    refine ⟨B', ?_, h2⟩
    simp only [List.set_cons_succ, EnvR]
    exact ⟨s, _, rfl, h1⟩
  | some d' :: e, σ, B, 0, h, q => by simp at q
  | some d' :: e, σ, B, i + 1, h, q => by
    simp only [EnvR] at h
    obtain ⟨w, σ', A', C, rfl, rfl, o, r⟩ := h
    obtain ⟨B', h1, h2⟩ := EnvR.put ov e σ' C i r (by simpa using q)
    refine ⟨A' ++ B', ?_, ?_⟩
    · simp only [List.set_cons_succ, EnvR]
      exact ⟨w, _, A', B', rfl, rfl, o, h1⟩
    · refine (List.Perm.append_left A' h2).trans ?_
      rw [← List.append_assoc, ← List.append_assoc]
      exact List.Perm.append_right C List.perm_append_comm
/-- a slot forgotten (whatever σ holds there) -/
theorem EnvR.drop : ∀ (e : Env) (σ : L2.St) (B : List Addr) (i : Nat) (s : Option V), EnvR K H F σ e B → ∃ B', EnvR K H F (σ.set i s) (e.set i none) B' ∧ B'.Sublist B
  | [], σ, B, i, s, h => by
    simp only [EnvR] at h
    rw [h.1, h.2]
    exact ⟨[], by simp [EnvR], .refl _⟩
  | none :: e, σ, B, 0, s, h => by
    simp only [EnvR] at h
    obtain ⟨s', σ', rfl, r⟩ := h
    exact ⟨B, by simp only [List.set_cons_zero, EnvR]; exact ⟨s, σ', rfl, r⟩, .refl _⟩
  | none :: e, σ, B, i + 1, s, h => by
    simp only [EnvR] at h
    obtain ⟨s', σ', rfl, r⟩ := h
    obtain ⟨B', h1, h2⟩ := EnvR.drop e σ' B i s r
    exact ⟨B', by simp only [List.set_cons_succ, EnvR]; exact ⟨s', _, rfl, h1⟩, h2⟩
  | some d :: e, σ, B, 0, s, h => by
    simp only [EnvR] at h
    obtain ⟨w, σ', A', C, rfl, rfl, o, r⟩ := h
    exact ⟨C, by simp only [List.set_cons_zero, EnvR]; exact ⟨s, σ', rfl, r⟩, List.sublist_append_right ..⟩
  | some d :: e, σ, B, i + 1, s, h => by
    simp only [EnvR] at h
    obtain ⟨w, σ', A', C, rfl, rfl, o, r⟩ := h
    obtain ⟨B', h1, h2⟩ := EnvR.drop e σ' C i s r
    exact ⟨A' ++ B', by simp only [List.set_cons_succ, EnvR]; exact ⟨w, _, A', B', rfl, rfl, o, h1⟩, h2.append_left A'⟩
/-- a slot assigned -/
theorem EnvR.asg {v : V} {d : D} {A : List Addr} (ov : Ow K H F v d A) {e : Env} {σ : L2.St} {B : List Addr} {i : Nat} (h : EnvR K H F σ e B) (hi : i < e.length) (dd : Dis F (A ++ B)) :
    ∃ B', EnvR K H F (σ.set i (some v)) (e.set i (some d)) B' ∧ Dis F B' ∧ ∀ a ∈ B', a ∈ A ++ B := by
  obtain ⟨B1, h1, s1⟩ := EnvR.drop e σ B i none h
  obtain ⟨B2, h2, p2⟩ := EnvR.put ov _ _ B1 i h1 (by simp [hi])
  rw [List.set_set, List.set_set] at h2
  have sl : (A ++ B1).Sublist (A ++ B) := s1.append_left A
  exact ⟨B2, h2, (dd.sub sl).perm p2.symm, fun a ha => sl.subset (p2.mem_iff.mp ha)⟩

theorem ScrS.mono (m : ∀ a, F a → F' a) {a : Addr} {xs : List V} (q : ScrS K H F a xs) : ScrS K H F' a xs := q.imp (fun z => ⟨z.1, m _ z.2⟩) id
mutual
theorem Fz.mono (m : ∀ a, F a → F' a) : ∀ (d : D) (v : V), Fz K H F v d → Fz K H F' v d
  | .non, _, h => by simpa only [Fz] using h
  | .bl _, _, h => by simpa only [Fz] using h
  | .int _, _, h => by simpa only [Fz] using h
  | .str _, _, h => by simpa only [Fz] using h
  | .adr _, _, h => by simpa only [Fz] using h
  | .tup l, v, h => by
    simp only [Fz] at h ⊢
    obtain ⟨a, xs, e, q, r⟩ := h
    exact ⟨a, xs, e, q, FzL.mono m l xs r⟩
  | .scr l, v, h => by
    simp only [Fz] at h ⊢
    obtain ⟨a, xs, e, q, r⟩ := h
    exact ⟨a, xs, e, q.mono m, FzL.mono m l xs r⟩
  | .lst o l, v, h => by
    simp only [Fz] at h ⊢
    obtain ⟨h0, a, xs, e, q, r⟩ := h
    exact ⟨h0, a, xs, e, ⟨q.1, m a q.2⟩, FzL.mono m l xs r⟩
theorem FzL.mono (m : ∀ a, F a → F' a) : ∀ (l : List D) (xs : List V), FzL K H F xs l → FzL K H F' xs l
  | [], _, h => by simpa only [FzL] using h
  | d :: l, xs, h => by
    simp only [FzL] at h ⊢
    obtain ⟨y, ys, e, q, r⟩ := h
    exact ⟨y, ys, e, Fz.mono m d y q, FzL.mono m l ys r⟩
end
mutual
theorem Fz.isFz : ∀ (d : D) (v : V), Fz K H F v d → d.isFz = true
  | .non, _, h => rfl
  | .bl _, _, h => rfl
  | .int _, _, h => rfl
  | .str _, _, h => rfl
  | .adr _, _, h => rfl
  | .tup l, v, h => by
    simp only [Fz] at h
    obtain ⟨a, xs, e, q, r⟩ := h
    exact FzL.isFz l xs r
  | .scr l, v, h => by
    simp only [Fz] at h
    obtain ⟨a, xs, e, q, r⟩ := h
    exact FzL.isFz l xs r
  | .lst o l, v, h => by
    simp only [Fz] at h
    obtain ⟨h0, a, xs, e, q, r⟩ := h
    subst h0
    simpa only [D.isFz, Bool.not_false, Bool.true_and] using FzL.isFz l xs r
theorem FzL.isFz : ∀ (l : List D) (xs : List V), FzL K H F xs l → isFzs l = true
  | [], _, h => rfl
  | d :: l, xs, h => by
    simp only [FzL] at h
    obtain ⟨y, ys, e, q, r⟩ := h
    simp only [isFzs, Fz.isFz d y q, FzL.isFz l ys r, Bool.and_self]
end
/-- frozen: nothing is held -/
theorem Fz.ow {d : D} {v : V} (h : Fz K H F v d) : Ow K H F v d [] := by
  cases d with
  | lst o l =>
    have h' := h
    simp only [Fz] at h'
    obtain ⟨h0, r⟩ := h'
    subst h0
    exact ⟨rfl, r⟩
  | tup l => simp only [Fz] at h; exact ⟨rfl, h⟩
  | scr l => simp only [Fz] at h; exact ⟨rfl, h⟩
  | non => exact ⟨rfl, by simpa only [Fz] using h⟩
  | bl b => exact ⟨rfl, by simpa only [Fz] using h⟩
  | int i => exact ⟨rfl, by simpa only [Fz] using h⟩
  | str i => exact ⟨rfl, by simpa only [Fz] using h⟩
  | adr i => exact ⟨rfl, by simpa only [Fz] using h⟩
theorem FzL.ow : ∀ {l : List D} {xs : List V}, FzL K H F xs l → OwL K H F xs l []
  | [], xs, h => by simp only [FzL] at h; simp only [OwL]; exact ⟨h, trivial⟩
  | d :: l, xs, h => by
    simp only [FzL] at h
    obtain ⟨y, ys, e, q, r⟩ := h
    simp only [OwL]
    exact ⟨y, ys, [], [], e, rfl, q.ow, r.ow⟩
mutual
/-- what was held is shared now -/
theorem Ow.fz (m : ∀ a, F a → F' a) : ∀ (d : D) (v : V) (A : List Addr), Ow K H F v d A → (∀ a ∈ A, F' a) → Fz K H F' v d.fz
  | .non, _, _, h, _ => by simp only [Ow] at h; simp only [D.fz, Fz]; exact h.2
  | .bl _, _, _, h, _ => by simp only [Ow] at h; simp only [D.fz, Fz]; exact h.2
  | .int _, _, _, h, _ => by simp only [Ow] at h; simp only [D.fz, Fz]; exact h.2
  | .str _, _, _, h, _ => by simp only [Ow] at h; simp only [D.fz, Fz]; exact h.2
  | .adr _, _, _, h, _ => by simp only [Ow] at h; simp only [D.fz, Fz]; exact h.2
  | .tup l, v, _, h, _ => by
    simp only [Ow] at h
    obtain ⟨h0, a, xs, e, q, r⟩ := h
    simp only [D.fz, Fz]
    rw [fzs_of l (FzL.isFz l xs r)]
    exact ⟨a, xs, e, q, FzL.mono m l xs r⟩
  | .scr l, v, _, h, _ => by
    simp only [Ow] at h
    obtain ⟨h0, a, xs, e, q, r⟩ := h
    simp only [D.fz, Fz]
    rw [fzs_of l (FzL.isFz l xs r)]
    exact ⟨a, xs, e, q.mono m, FzL.mono m l xs r⟩
  | .lst false l, v, _, h, _ => by
    simp only [Ow] at h
    obtain ⟨h0, a, xs, e, q, r⟩ := h
    simp only [D.fz, Fz]
    rw [fzs_of l (FzL.isFz l xs r)]
    exact ⟨trivial, a, xs, e, ⟨q.1, m a q.2⟩, FzL.mono m l xs r⟩
  | .lst true l, v, A, h, hA => by
    simp only [Ow] at h
    obtain ⟨a, xs, As, e, q, eA, r⟩ := h
    subst eA
    simp only [D.fz, Fz]
    exact ⟨trivial, a, xs, e, ⟨q, hA a List.mem_cons_self⟩, OwL.fz m l xs As r fun b hb => hA b (List.mem_cons_of_mem _ hb)⟩
theorem OwL.fz (m : ∀ a, F a → F' a) : ∀ (l : List D) (xs : List V) (A : List Addr), OwL K H F xs l A → (∀ a ∈ A, F' a) → FzL K H F' xs (fzs l)
  | [], _, _, h, _ => by simp only [OwL] at h; simp only [fzs, FzL]; exact h.1
  | d :: l, xs, A, h, hA => by
    simp only [OwL] at h
    obtain ⟨y, ys, A1, A2, e, eA, q, r⟩ := h
    subst eA
    simp only [fzs, FzL]
    exact ⟨y, ys, e, Ow.fz m d y A1 q fun a ha => hA a (List.mem_append_left _ ha), OwL.fz m l ys A2 r fun a ha => hA a (List.mem_append_right _ ha)⟩
end
theorem Ow.isFz {d : D} {v : V} {A : List Addr} (h : Ow K H F v d A) (z : d.isFz = true) : A = [] ∧ Fz K H F v d := by
  cases d with
  | lst o l =>
    cases o with
    | true => simp [D.isFz] at z
    | false => simp only [Ow] at h; exact ⟨h.1, by simp only [Fz]; exact ⟨trivial, h.2⟩⟩
  | tup l => simp only [Ow] at h; exact ⟨h.1, by simp only [Fz]; exact h.2⟩
  | scr l => simp only [Ow] at h; exact ⟨h.1, by simp only [Fz]; exact h.2⟩
  | non => simp only [Ow] at h; exact ⟨h.1, by simp only [Fz]; exact h.2⟩
  | bl b => simp only [Ow] at h; exact ⟨h.1, by simp only [Fz]; exact h.2⟩
  | int i => simp only [Ow] at h; exact ⟨h.1, by simp only [Fz]; exact h.2⟩
  | str i => simp only [Ow] at h; exact ⟨h.1, by simp only [Fz]; exact h.2⟩
  | adr i => simp only [Ow] at h; exact ⟨h.1, by simp only [Fz]; exact h.2⟩
theorem OwL.isFz : ∀ {l : List D} {xs : List V} {A : List Addr}, OwL K H F xs l A → isFzs l = true → A = [] ∧ FzL K H F xs l
  | [], xs, A, h, _ => by simp only [OwL] at h; simp only [FzL]; exact ⟨h.2, h.1⟩
  | d :: l, xs, A, h, z => by
    simp only [OwL] at h
    obtain ⟨y, ys, A1, A2, e, eA, q, r⟩ := h
    simp only [isFzs, Bool.and_eq_true] at z
    obtain ⟨e1, q'⟩ := q.isFz z.1
    obtain ⟨e2, r'⟩ := OwL.isFz r z.2
    subst e1 e2
    simp only [FzL]
    exact ⟨by rw [eA]; rfl, y, ys, e, q', r'⟩
theorem FzL.length : ∀ {l : List D} {xs : List V}, FzL K H F xs l → xs.length = l.length
  | [], xs, h => by simp only [FzL] at h; rw [h]; rfl
  | d :: l, xs, h => by
    simp only [FzL] at h
    obtain ⟨y, ys, e, q, r⟩ := h
    rw [e, List.length_cons, List.length_cons, FzL.length r]
theorem OwL.length : ∀ {l : List D} {xs : List V} {A : List Addr}, OwL K H F xs l A → xs.length = l.length
  | [], xs, A, h => by simp only [OwL] at h; rw [h.1]; rfl
  | d :: l, xs, A, h => by
    simp only [OwL] at h
    obtain ⟨y, ys, A1, A2, e, eA, q, r⟩ := h
    rw [e, List.length_cons, List.length_cons, OwL.length r]
theorem FzL.get : ∀ {l : List D} {xs : List V} {i : Nat} {d : D}, FzL K H F xs l → l[i]? = some d → ∃ x, xs[i]? = some x ∧ Fz K H F x d
  | [], xs, i, d, h, q => by simp at q
  | d' :: l, xs, 0, d, h, q => by
    simp only [FzL] at h
    obtain ⟨y, ys, e, r, _⟩ := h
    simp at q
    subst q e
    exact ⟨y, by simp, r⟩
  | d' :: l, xs, i + 1, d, h, q => by
    simp only [FzL] at h
    obtain ⟨y, ys, e, _, r⟩ := h
    obtain ⟨x, h1, h2⟩ := FzL.get (i := i) (d := d) r (by simpa using q)
    subst e
    exact ⟨x, by simpa using h1, h2⟩
theorem FzL.append : ∀ {l m : List D} {xs ys : List V}, FzL K H F xs l → FzL K H F ys m → FzL K H F (xs ++ ys) (l ++ m)
  | [], m, xs, ys, h, q => by simp only [FzL] at h; rw [h]; exact q
  | d :: l, m, xs, ys, h, q => by
    simp only [FzL] at h
    obtain ⟨y, zs, e, r, t⟩ := h
    subst e
    simp only [List.cons_append, FzL]
    exact ⟨y, zs ++ ys, rfl, r, FzL.append t q⟩
theorem FzL.take : ∀ (n : Nat) {l : List D} {xs : List V}, FzL K H F xs l → FzL K H F (xs.take n) (l.take n)
  | 0, l, xs, h => by simp [FzL]
  | n + 1, [], xs, h => by simp only [FzL] at h; rw [h]; simp [FzL]
  | n + 1, d :: l, xs, h => by
    simp only [FzL] at h
    obtain ⟨y, zs, e, r, t⟩ := h
    subst e
    simp only [List.take_succ_cons, FzL]
    exact ⟨y, _, rfl, r, FzL.take n t⟩
theorem FzL.drop : ∀ (n : Nat) {l : List D} {xs : List V}, FzL K H F xs l → FzL K H F (xs.drop n) (l.drop n)
  | 0, l, xs, h => by simpa using h
  | n + 1, [], xs, h => by simp only [FzL] at h; rw [h]; simp [FzL]
  | n + 1, d :: l, xs, h => by
    simp only [FzL] at h
    obtain ⟨y, zs, e, r, t⟩ := h
    subst e
    simpa using FzL.drop n t
theorem FzL.reverse : ∀ {l : List D} {xs : List V}, FzL K H F xs l → FzL K H F xs.reverse l.reverse
  | [], xs, h => by simp only [FzL] at h; rw [h]; simp [FzL]
  | d :: l, xs, h => by
    simp only [FzL] at h
    obtain ⟨y, zs, e, r, t⟩ := h
    subst e
    rw [List.reverse_cons, List.reverse_cons]
    exact FzL.append (FzL.reverse t) (by simp only [FzL]; exact ⟨y, [], rfl, r, rfl⟩)
theorem FzL.set : ∀ {l : List D} {xs : List V} (i : Nat) {x : V} {d : D}, FzL K H F xs l → Fz K H F x d → FzL K H F (xs.set i x) (l.set i d)
  | [], xs, i, x, d, h, q => by simp only [FzL] at h; rw [h]; simp [FzL]
  | d' :: l, xs, 0, x, d, h, q => by
    simp only [FzL] at h
    obtain ⟨y, ys, e, r, t⟩ := h
    subst e
    simp only [List.set_cons_zero, FzL]
    exact ⟨x, ys, rfl, q, t⟩
  | d' :: l, xs, i + 1, x, d, h, q => by
    simp only [FzL] at h
    obtain ⟨y, ys, e, r, t⟩ := h
    subst e
    simp only [List.set_cons_succ, FzL]
    exact ⟨y, _, rfl, r, FzL.set i t q⟩
theorem OwL.append : ∀ {l m : List D} {xs ys : List V} {A1 A2 : List Addr}, OwL K H F xs l A1 → OwL K H F ys m A2 → OwL K H F (xs ++ ys) (l ++ m) (A1 ++ A2)
  | [], m, xs, ys, A1, A2, h, q => by simp only [OwL] at h; rw [h.1, h.2]; exact q
  | d :: l, m, xs, ys, A1, A2, h, q => by
    simp only [OwL] at h
    obtain ⟨y, zs, C1, C2, e, e2, r, t⟩ := h
    subst e e2
    simp only [List.cons_append, OwL]
    exact ⟨y, zs ++ ys, C1, C2 ++ A2, rfl, by rw [List.append_assoc], r, OwL.append t q⟩
end
end PV
set_option Elab.async false
set_option linter.all false
set_option maxRecDepth 100000
set_option maxHeartbeats 4000000
namespace PV
open PySem PySem.Spec PyProof.Rows L2

/-- the code objects' tables that a generator expression may write -/
class Tabs where
  T : Addr → Prop
variable [Tabs]

/-! ## what a piece of code says -/
inductive R (α : Type) where
  | ok (a : α) (e : Env) | exc (c : Nat) (e : Env) | bad
def R.bind {α β : Type} (r : R α) (f : α → Env → R β) : R β := match r with
  | .ok a e => f a e
  | .exc c e => .exc c e
  | .bad => .bad
abbrev SM (α : Type) := Env → R α
abbrev SE := SM D
/-- an operand: a value that no name holds, or what stands in a slot (as it is when it is used) -/
inductive Ar where
  | tmp (d : D) | slot (i : Nat)
abbrev SO := SM Ar

structure Wl (K : PySem.W.Frag) (σ : L2.St) (H : Hp) (F : Addr → Prop) (env : Env) (B : List Addr) : Prop where
  er : EnvR K H F σ env B
  dis : Dis F B
  tr : ∀ a, F a → H a ≠ none
  tab : ∀ P, Tabs.T P → TabK H P
abbrev Rp (α ν : Type) := L2.St → Hp → (Addr → Prop) → ν → α → List Addr → Prop
structure StR {α ν : Type} (P : Rp α ν) : Prop where
  ext : ∀ {σ : L2.St} {H H' : Hp} {F F' : Addr → Prop} {B A : List Addr} {v : ν} {a : α}, P σ H F v a A → Ext B H F H' F' → (∀ c ∈ A, c ∉ B) → (∀ c, F c → c ∉ B) → P σ H' F' v a A
  there : ∀ {σ : L2.St} {H : Hp} {F : Addr → Prop} {A : List Addr} {v : ν} {a : α}, P σ H F v a A → ∀ c ∈ A, H c ≠ none
/-- something held meanwhile -/
abbrev Hd := Hp → (Addr → Prop) → List Addr → Prop
structure StH (P : Hd) : Prop where
  ext : ∀ {H H' : Hp} {F F' : Addr → Prop} {B A : List Addr}, P H F A → Ext B H F H' F' → (∀ c ∈ A, c ∉ B) → (∀ c, F c → c ∉ B) → P H' F' A
  there : ∀ {H : Hp} {F : Addr → Prop} {A : List Addr}, P H F A → ∀ c ∈ A, H c ≠ none
def hNo : Hd := fun _ _ A => A = []
theorem st_no : StH hNo := ⟨fun h _ _ _ => h, fun h c hc => by have h : _ = [] := h; rw [h] at hc; cases hc⟩
theorem StR.h {α ν : Type} {P : Rp α ν} (s : StR P) (σ : L2.St) (v : ν) (a : α) : StH (fun H F A => P σ H F v a A) := ⟨fun h x n m => s.ext h x n m, fun h => s.there h⟩
/-- both -/
def hAnd (P P' : Hd) : Hd := fun H F A => ∃ A1 A2, A = A1 ++ A2 ∧ P H F A1 ∧ P' H F A2
theorem st_and {P P' : Hd} (s : StH P) (t : StH P') : StH (hAnd P P') where
  ext := fun ⟨A1, A2, e, h1, h2⟩ x n m => ⟨A1, A2, e, s.ext h1 x (fun c hc => n c (by rw [e]; exact List.mem_append_left _ hc)) m, t.ext h2 x (fun c hc => n c (by rw [e]; exact List.mem_append_right _ hc)) m⟩
  there := fun ⟨A1, A2, e, h1, h2⟩ c hc => by
    rw [e] at hc
    exact (List.mem_append.mp hc).elim (s.there h1 c) (t.there h2 c)

section
variable (K : PySem.W.Frag) (cv : Nat → Value) (W : WX)
def Fin {α ν : Type} (P : Rp α ν) (σ : L2.St) (H : Hp) (F : Addr → Prop) (B : List Addr) (Q : ν → Hp → Prop) : R α → Prop
  | .ok r e' => ∀ v H' F' A B', Ext B H F H' F' → Wl K σ H' F' e' B' → P σ H' F' v r A → Dis F' (A ++ B') → Sub (A ++ B') B H → Q v H'
  | .exc c e' => ∀ H' F' B', Ext B H F H' F' → Wl K σ H' F' e' B' → Sub B' B H → W (cv c) none σ H'
  | .bad => False
def sm {α ν : Type} (P : Rp α ν) (m : SM α) : L2.St → Hp → (ν → Hp → Prop) → Prop := fun σ H Q => ∃ F env B, Wl K σ H F env B ∧ Fin K cv W P σ H F B Q (m env)
end
/-- a value; a truth value; an operand -/
def rD (K : PySem.W.Frag) : Rp D V := fun _ H F v d A => Ow K H F v d A
def rB : Rp Bool Bool := fun _ _ _ v b A => v = b ∧ A = []
def rA (K : PySem.W.Frag) : Rp Ar V := fun σ H F v a A => match a with
  | .tmp d => Ow K H F v d A
  | .slot i => A = [] ∧ σ[i]? = some (some v)
theorem st_D {K : PySem.W.Frag} : StR (rD K) := ⟨fun h x n m => Ow.ext x m _ _ _ n h, fun h c hc => by
  obtain ⟨xs, e⟩ := Ow.there _ _ _ h c hc
  rw [e]; simp⟩
theorem st_B : StR rB := ⟨fun h _ _ _ => h, fun h c hc => by rw [h.2] at hc; cases hc⟩
theorem st_A {K : PySem.W.Frag} : StR (rA K) := ⟨fun {σ H H' F F' B A v a} h x n m => by
    cases a with
    | tmp d => exact Ow.ext x m _ _ _ n h
    | slot i => exact h,
  fun {σ H F A v a} h c hc => by
    cases a with
    | tmp d => exact StR.there (P := rD K) st_D (σ := σ) h c hc
    | slot i => rw [h.1] at hc; cases hc⟩

section
variable {K : PySem.W.Frag} {cv : Nat → Value} {W : WX} {σ : L2.St} {H H1 H' : Hp} {F F1 F' : Addr → Prop} {B B1 A A1 : List Addr} {env : Env}
theorem Fin.step {α ν : Type} {P : Rp α ν} {Q : ν → Hp → Prop} {r : R α} (x : Ext B H F H1 F1) (s : Sub B1 B H) (h : Fin K cv W P σ H F B Q r) : Fin K cv W P σ H1 F1 B1 Q r := by
  cases r with
  | ok r e' => exact fun v H' F' A B' y w p d t => h v H' F' A B' (x.trans y s) w p d (s.trans t x.fr)
  | exc c e' => exact fun H' F' B' y w t => h H' F' B' (x.trans y s) w (s.trans t x.fr)
  | bad => exact h
theorem Fin.mono {α ν : Type} {P : Rp α ν} {Q Q' : ν → Hp → Prop} {r : R α} (i : ∀ v H, Q v H → Q' v H) (h : Fin K cv W P σ H F B Q r) : Fin K cv W P σ H F B Q' r := by
  cases r with
  | ok r e' => exact fun v H' F' A B' y w p d t => i _ _ (h v H' F' A B' y w p d t)
  | exc c e' => exact h
  | bad => exact h
theorem sm.mono {α ν : Type} {P : Rp α ν} {m : SM α} {Q Q' : ν → Hp → Prop} (h : sm K cv W P m σ H Q) (i : ∀ v H, Q v H → Q' v H) : sm K cv W P m σ H Q' :=
  let ⟨F, env, B, w, f⟩ := h
  ⟨F, env, B, w, f.mono i⟩
/-- a part is run, what is held stays -/
theorem sm.run {α β ν μ : Type} {P : Rp α ν} {P' : Rp β μ} {Pr : Hd} {m : SM α} {g : α → Env → R β} {Q : μ → Hp → Prop} (st : StH Pr) (w : Wl K σ H F env B) (hp : Pr H F A) (d : Dis F (A ++ B))
    (h : Fin K cv W P' σ H F (A ++ B) Q ((m env).bind g)) :
    sm K cv W P m σ H fun v H1 => ∃ F1 env1 a A1 B1, Wl K σ H1 F1 env1 B1 ∧ Pr H1 F1 A ∧ P σ H1 F1 v a A1 ∧ Dis F1 (A ++ (A1 ++ B1)) ∧ Fin K cv W P' σ H1 F1 (A ++ (A1 ++ B1)) Q (g a env1) := by
  refine ⟨F, env, B, w, ?_⟩
  cases e : m env with
  | bad => rw [e] at h; exact h
  | exc c e' =>
    rw [e] at h
    exact fun H' F' B' x w' s => h H' F' B' (x.wk fun a ha => List.mem_append_right _ ha) w' fun a ha => (s a ha).imp (List.mem_append_right _) id
  | ok a e' =>
    rw [e] at h
    intro v H1 F1 A1 B1 x w1 p d1 s1
    have nA : ∀ c ∈ A, c ∉ A1 ++ B1 := fun c hc z => (s1 c z).elim (d.apart c hc) (st.there hp c hc)
    refine ⟨F1, e', a, A1, B1, w1, st.ext hp x (fun c hc => d.apart c hc) w.dis.notF, p, ?_, ?_⟩
    · refine Dis.app ⟨d.left.1, fun c hc z => ?_⟩ d1 nA
      rcases x.new c z with q | q | q
      · exact d.left.2 c hc q
      · exact d.apart c hc q
      · exact st.there hp c hc q
    · refine Fin.step (x.wk fun a ha => List.mem_append_right _ ha) (fun c hc => ?_) h
      rcases List.mem_append.mp hc with hc | hc
      · exact .inl (List.mem_append_left _ hc)
      · exact (s1 c hc).imp (List.mem_append_right _) id
theorem sm.run0 {α β ν μ : Type} {P : Rp α ν} {P' : Rp β μ} {m : SM α} {g : α → Env → R β} {Q : μ → Hp → Prop} (h : sm K cv W P' (fun e => (m e).bind g) σ H Q) :
    sm K cv W P m σ H fun v H1 => ∃ F1 env1 a A1 B1, Wl K σ H1 F1 env1 B1 ∧ P σ H1 F1 v a A1 ∧ Dis F1 (A1 ++ B1) ∧ Fin K cv W P' σ H1 F1 (A1 ++ B1) Q (g a env1) := by
  obtain ⟨F, env, B, w, f⟩ := h
  have q := sm.run (A := []) (Pr := hNo) (P := P) st_no w rfl (by simpa using w.dis) (by simpa using f)
  obtain ⟨F', env', B', w', f'⟩ := q
  refine ⟨F', env', B', w', ?_⟩
  cases e : m env' with
  | bad => rw [e] at f'; exact f'
  | exc c e' => rw [e] at f'; exact f'
  | ok a e' =>
    rw [e] at f'
    intro v H1 F1 A1 B1 x w1 p d1 s1
    obtain ⟨F2, e2, a2, A2, B2, w2, _, p2, d2, f2⟩ := f' v H1 F1 A1 B1 x w1 p d1 s1
    exact ⟨F2, e2, a2, A2, B2, w2, p2, by simpa using d2, by simpa using f2⟩

/-! ### the end of a construct -/
/-- a value that is read where it stands: all its lists are held within B or shared -/
def OwB (K : PySem.W.Frag) (H : Hp) (F : Addr → Prop) (B : List Addr) (v : V) (d : D) : Prop := ∃ A, Ow K H F v d A ∧ ∀ c ∈ A, c ∈ B
def rsv (e : Env) : Ar → Option D
  | .tmp d => some d.fz
  | .slot i => match e[i]? with
    | some (some d) => some d
    | _ => none
/-- temporary things become shared -/
theorem Wl.freeze (w : Wl K σ H F env B) (d : Dis F (A ++ B)) (t : ∀ a ∈ A, H a ≠ none) : Wl K σ H (fun a => F a ∨ a ∈ A) env B where
  er := EnvR.ext (Ext.freeze (B := A) (fun _ h => h) t) (fun a h z => d.left.2 a z h) _ _ _ (fun a h => d.apart' a h) w.er
  dis := ⟨w.dis.1, fun a h z => z.elim (w.dis.2 a h) (d.apart' a h)⟩
  tr := fun a h => h.elim (w.tr a) (t a)
  tab := w.tab
theorem rsv_ok {v : V} {a : Ar} {d : D} (w : Wl K σ H F' env B) (m : ∀ c, F c → F' c) (ha : ∀ c ∈ A1, F' c) (p : rA K σ H F v a A1) (e : rsv env a = some d) : OwB K H F' B v d := by
  cases a with
  | tmp d' =>
    cases e
    exact ⟨[], (Ow.fz m _ _ _ p ha).ow, fun c hc => by cases hc⟩
  | slot i =>
    simp only [rsv] at e
    split at e
    · rename_i d' q
      cases e
      obtain ⟨v', A, B', h1, h2, h3, _⟩ := EnvR.take _ _ _ i _ w.er q
      obtain ⟨_, h4⟩ := p
      rw [h4] at h1
      cases h1
      exact ⟨A, h2, fun c hc => h3.mem_iff.mpr (List.mem_append_left _ hc)⟩
    · cases e
theorem OwB.tup {l : List D} {v : V} (h : OwB K H F B v (.tup l)) : ∃ a xs, v = .ref a ∧ SqT K H a xs ∧ FzL K H F xs l := by
  obtain ⟨A, h, _⟩ := h
  simp only [Ow] at h
  exact h.2
theorem OwB.scr {l : List D} {v : V} (h : OwB K H F B v (.scr l)) : ∃ a xs, v = .ref a ∧ SqL K H a xs ∧ FzL K H F xs l := by
  obtain ⟨A, h, _⟩ := h
  simp only [Ow] at h
  obtain ⟨_, a, xs, e, q, r⟩ := h
  exact ⟨a, xs, e, q.sq, r⟩
theorem OwB.lst {o : Bool} {l : List D} {v : V} (h : OwB K H F B v (.lst o l)) : ∃ a xs, v = .ref a ∧ H a = some (.lst xs) ∧ xs.length = l.length ∧ (isFzs l = true → FzL K H F xs l) := by
  obtain ⟨A, h, _⟩ := h
  cases o with
  | true =>
    simp only [Ow] at h
    obtain ⟨a, xs, As, e, q, _, r⟩ := h
    exact ⟨a, xs, e, q, r.length, fun z => (r.isFz z).2⟩
  | false =>
    simp only [Ow] at h
    obtain ⟨_, a, xs, e, q, r⟩ := h
    exact ⟨a, xs, e, q.1, r.length, fun _ => r⟩
theorem OwB.int {i : Int} {v : V} (h : OwB K H F B v (.int i)) : v = .int i := by
  obtain ⟨A, h, _⟩ := h
  simp only [Ow] at h
  exact h.2
theorem OwB.bl {i : Bool} {v : V} (h : OwB K H F B v (.bl i)) : v = .bl i := by
  obtain ⟨A, h, _⟩ := h
  simp only [Ow] at h
  exact h.2
theorem OwB.str {i : Str} {v : V} (h : OwB K H F B v (.str i)) : v = .str i := by
  obtain ⟨A, h, _⟩ := h
  simp only [Ow] at h
  exact h.2
theorem OwB.adr {i : Addr} {v : V} (h : OwB K H F B v (.adr i)) : v = .ref i := by
  obtain ⟨A, h, _⟩ := h
  simp only [Ow] at h
  exact h.2
theorem OwB.non {v : V} (h : OwB K H F B v .non) : v = .non := by
  obtain ⟨A, h, _⟩ := h
  simp only [Ow] at h
  exact h.2
/-- a new thing -/
theorem Ext.laid {o : HO} {p : Addr} (hp : H p = none) : Ext B H F (upd H p o) F where
  tup := fun a xs h => by rw [upd_ne (ne_of_none h hp)]; exact h
  frz := fun a o' u h => by rw [upd_ne (ne_of_none h hp)]; exact h
  lst := fun a xs h _ => by rw [upd_ne (ne_of_none h hp)]; exact h
  fr := fun a h => by
    by_cases q : a = p
    · rw [q]; exact hp
    · rw [upd_ne q] at h; exact h
  tab := fun a ⟨ps, h, t⟩ => ⟨ps, by rw [upd_ne (ne_of_none h hp)]; exact h, t⟩
  mono := fun _ h => h
  new := fun _ h => .inl h
  tr := fun _ h n => absurd h n
/-- a held list is changed -/
theorem Ext.wrote {xs ys : List V} {a : Addr} (ha : H a = some (.lst xs)) (hb : a ∈ B) : Ext B H F (upd H a (.lst ys)) F where
  tup := fun c zs h => by rw [upd_ne (ne_of h ha (by simp))]; exact h
  frz := fun c o' u h => by rw [upd_ne (ne_of h ha (by simp))]; exact h
  lst := fun c zs h n => by rw [upd_ne (fun z : c = a => n (by rw [z]; exact hb))]; exact h
  fr := fun c h => by
    by_cases q : c = a
    · rw [q, upd_same] at h; cases h
    · rw [upd_ne q] at h; exact h
  tab := fun c ⟨ps, h, t⟩ => ⟨ps, by rw [upd_ne (ne_of h ha (by simp))]; exact h, t⟩
  mono := fun _ h => h
  new := fun _ h => .inl h
  tr := fun _ h n => absurd h n
theorem Wl.ext (w : Wl K σ H F env B) (x : Ext A H F H' F') (n : ∀ c ∈ B, c ∉ A) (m : ∀ c, F c → c ∉ A) : Wl K σ H' F' env B where
  er := EnvR.ext x m _ _ _ n w.er
  dis := ⟨w.dis.1, fun a h z => by
    rcases x.new a z with q | q | q
    · exact w.dis.2 a h q
    · exact n a h q
    · obtain ⟨xs, e⟩ := EnvR.there _ _ _ w.er a h
      rw [e] at q; cases q⟩
  tr := fun a h z => by
    by_cases q : F a
    · exact w.tr a q (x.fr a z)
    · exact x.tr a h q z
  tab := fun P h => x.tab P (w.tab P h)
theorem Wl.laid {o : HO} {p : Addr} (w : Wl K σ H F env B) (hp : H p = none) : Wl K σ (upd H p o) F env B :=
  w.ext (A := []) (Ext.laid hp) (fun _ _ z => by cases z) (fun _ _ z => by cases z)
theorem Wl.notF {p : Addr} (w : Wl K σ H F env B) (hp : H p = none) : ¬ F p := fun z => w.tr p z hp
theorem Wl.notB {p : Addr} (w : Wl K σ H F env B) (hp : H p = none) : p ∉ B := fun z => by
  obtain ⟨xs, e⟩ := EnvR.there _ _ _ w.er p z
  rw [e] at hp; cases hp
/-- the end: temps A frozen, a plain value -/
theorem Fin.plain {Q : VK} {v : V} {d : D} (w : Wl K σ H F env B) (dd : Dis F (A ++ B)) (t : ∀ a ∈ A, H a ≠ none) (h : Fin K cv W (rD K) σ H F (A ++ B) Q (.ok d env)) (p : Fz K H (fun a => F a ∨ a ∈ A) v d) : Q v H :=
  h v H (fun a => F a ∨ a ∈ A) [] B (Ext.freeze (fun a h => List.mem_append_left _ h) t) (w.freeze dd t) p.ow (w.freeze dd t).dis (fun a h => .inl (List.mem_append_right _ h))
/-- .. a new tuple -/
theorem Fin.newT {Q : VK} {xs : List V} {l : List D} {p : Addr} (hp : H p = none) (w : Wl K σ H F env B) (dd : Dis F (A ++ B)) (t : ∀ a ∈ A, H a ≠ none) (h : Fin K cv W (rD K) σ H F (A ++ B) Q (.ok (.tup l) env)) (q : FzL K H (fun a => F a ∨ a ∈ A) xs l) : Q (.ref p) (upd H p (.tup xs)) := by
  have w1 := w.freeze dd t
  refine h _ _ (fun a => F a ∨ a ∈ A) [] B ((Ext.freeze (fun a h => List.mem_append_left _ h) t).trans (Ext.laid (B := A ++ B) hp) Sub.refl) (w1.laid hp) ?_ w1.dis (fun a h => .inl (List.mem_append_right _ h))
  show Ow K _ _ _ _ _
  simp only [Ow]
  exact ⟨trivial, p, xs, rfl, .inl (.inl upd_same), FzL.ext (B := []) (Ext.laid hp) (fun _ _ z => by cases z) _ _ q⟩
/-- .. a new list of shared things -/
theorem Fin.newL {Q : VK} {xs : List V} {l : List D} {p : Addr} (hp : H p = none) (w : Wl K σ H F env B) (dd : Dis F (A ++ B)) (t : ∀ a ∈ A, H a ≠ none) (h : Fin K cv W (rD K) σ H F (A ++ B) Q (.ok (.lst true l) env)) (q : FzL K H (fun a => F a ∨ a ∈ A) xs l) : Q (.ref p) (upd H p (.lst xs)) := by
  have w1 := w.freeze dd t
  have np := w1.notF hp
  have nb := w1.notB hp
  refine h _ _ (fun a => F a ∨ a ∈ A) [p] B ((Ext.freeze (fun a h => List.mem_append_left _ h) t).trans (Ext.laid (B := A ++ B) hp) Sub.refl) (w1.laid hp) ?_ ?_ (fun a h => ?_)
  · show Ow K _ _ _ _ _
    simp only [Ow]
    exact ⟨p, xs, [], rfl, upd_same, rfl, (FzL.ext (B := []) (Ext.laid hp) (fun _ _ z => by cases z) _ _ q).ow⟩
  · exact Dis.app ⟨by simp, fun a h => by simp at h; rw [h]; exact np⟩ w1.dis fun a h => by simp at h; rw [h]; exact nb
  · rcases List.mem_append.mp h with h | h
    · simp at h; rw [h]; exact .inr hp
    · exact .inl (List.mem_append_right _ h)
end
end PV
set_option Elab.async false
set_option linter.all false
set_option maxRecDepth 100000
set_option maxHeartbeats 4000000
namespace PV
open PySem PySem.Spec PyProof.Rows L2
/-! ## tuple * int, for every int -/
theorem tuple_mul_same (l : Addr) (items : Array Value) (n : Nat) (dd : Option Addr) (sl : Array (Option Value)) (x : Int) (u : Tok) (c0 : (decide (x < -(2 ^ 63)) || decide (x ≥ 2 ^ 63)) = false) (c1 : (items.isEmpty || x == 1) = true) :
    Meets (Builtin.«tuple.__mul__» ⟨[.ref l, .int x u], []⟩) (fun _ R s => s.heap.get? l = some { cls := .type "tuple", dict := dd, data := .seq items n, slots := sl } ∧ R (.ok (.ret (Value.ref l))) s) :=
  .of_wp fun prog w A R s h => by
    obtain ⟨hp, g, d, tk, os⟩ := s
    obtain ⟨hl, h⟩ := h
    have f1 := AutoSeq1.idx_int
    wp_walk using wpAny_loadPart' hl
    repeat (first
      | (refine wpAny_ite_false (decide_eq_false (by rw [c0]; exact Bool.false_ne_true)) ?_; wp_walk using wpAny_loadPart' hl)
      | (refine wpAny_ite_true (decide_eq_true c1) ?_; wp_walk using wpAny_loadPart' hl)
      | (refine wpAny_ite_true (by first | rfl | decide) ?_; wp_walk using wpAny_loadPart' hl))
    exact ⟨_, rfl, h⟩
theorem tuple_mul_none (l : Addr) (items : Array Value) (n : Nat) (dd : Option Addr) (sl : Array (Option Value)) (x : Int) (u : Tok) (c0 : (decide (x < -(2 ^ 63)) || decide (x ≥ 2 ^ 63)) = false) (c1 : (items.isEmpty || x == 1) = false) (c2 : (decide (x ≤ 0) || items.isEmpty) = true) :
    Meets (Builtin.«tuple.__mul__» ⟨[.ref l, .int x u], []⟩) (fun _ R s => s.heap.get? l = some { cls := .type "tuple", dict := dd, data := .seq items n, slots := sl } ∧
      R (.ok (.ret (Value.ref s.heap.objs.size))) { s with heap := s.heap.push { cls := Value.type "tuple", data := Data.seq #[] }, toks := s.toks }) :=
  .of_wp fun prog w A R s h => by
    obtain ⟨hp, g, d, tk, os⟩ := s
    obtain ⟨hl, h⟩ := h
    have f1 := AutoSeq1.idx_int
    wp_walk using wpAny_loadPart' hl
    repeat (first
      | (refine wpAny_ite_false (decide_eq_false (by rw [c0]; exact Bool.false_ne_true)) ?_; wp_walk using wpAny_loadPart' hl)
      | (refine wpAny_ite_false (decide_eq_false (by rw [c1]; exact Bool.false_ne_true)) ?_; wp_walk using wpAny_loadPart' hl)
      | (refine wpAny_ite_true (decide_eq_true c2) ?_; wp_walk using wpAny_loadPart' hl))
    exact ⟨_, rfl, h⟩
def rRepTX (K : PySem.W.Frag) : R2 := fun x y H Q => ∃ l k xs, x = .ref l ∧ y = .int k ∧ SqT K H l xs ∧ -1000 ≤ k ∧ k ≤ 1000 ∧ xs.length ≤ 1000 ∧
  (xs = [] ∨ k = 1 → Q (.ref l) H) ∧ (xs ≠ [] → k ≤ 0 → ∀ p, H p = none → Q (.ref p) (upd H p (.tup []))) ∧ (xs ≠ [] → 2 ≤ k → ∀ p, H p = none → Q (.ref p) (upd H p (.tup (List.replicate k.toNat xs).flatten)))
theorem op_repTX {X : Cx} : OpR X (binaryOp .Mult) (rRepTX X.K) := by
  intro pins s σ H x y v u Q I rx ry h
  obtain ⟨l, k, xs, rfl, rfl, hT, h1, h2, hz, q0, q1, q2⟩ := h
  by_cases hx : xs = [] ∨ k = 1
  · cases rx
    obtain ⟨t, rfl⟩ := ry
    obtain ⟨its, r, ⟨⟨cls, dd, data, sl⟩, ho, hc, n, hd⟩, hs⟩ := I.tuple hT
    simp only at hc hd
    subst hc hd
    have hle : its.length = xs.length := r.length.symm
    have c0 : (decide (k < -(2 ^ 63)) || decide (k ≥ 2 ^ 63)) = false := by
      rw [decide_eq_false (by omega), decide_eq_false (by omega)] <;> rfl
    have c1 : (its.toArray.isEmpty || k == 1) = true := by
      rcases hx with e | e
      · have e' : its = [] := List.eq_nil_of_length_eq_zero (by rw [hle, e]; rfl)
        rw [e']; rfl
      · rw [e]; simp
    refine wpAny_binaryOp_repeat_ref (T := "tuple") (U := "int") (by decide) ⟨_, ho, rfl⟩ (fun s' => typeIs_int s' k t) noFill_tuple_mul F.fills_int_mul F.slot_int_rmul repeat_tuple F.slot_int_index.lookup
      (call_meets F.slot_int_rmul (typeIs_int s k t) F.entry_int_rmul (F.args_int_rmul_2 _ _) (int_rmul_tuple k t l its.toArray n dd sl)
        ⟨ho, rfl, ⟨_, ho, rfl⟩, call_meets F.slot_tuple_mul ⟨_, ho, rfl⟩ F.entry_tuple_mul (F.args_tuple_mul_2 _ _) (tuple_mul_same l its.toArray n dd sl k t c0 c1) ⟨ho, ?_⟩⟩)
    exact ⟨.ref l, H, I, rfl, q0 hx⟩
  · have hne : xs ≠ [] := fun e => hx (.inl e)
    have hk1 : k ≠ 1 := fun e => hx (.inr e)
    by_cases hk : k ≤ 0
    · cases rx
      obtain ⟨t, rfl⟩ := ry
      obtain ⟨its, r, ⟨⟨cls, dd, data, sl⟩, ho, hc, n, hd⟩, hs⟩ := I.tuple hT
      simp only at hc hd
      subst hc hd
      have hle : its.length = xs.length := r.length.symm
      have hi : its.toArray.isEmpty = false := by
        cases its with
        | nil => exact absurd (List.eq_nil_of_length_eq_zero hle.symm) hne
        | cons a b => rfl
      have c0 : (decide (k < -(2 ^ 63)) || decide (k ≥ 2 ^ 63)) = false := by
        rw [decide_eq_false (by omega), decide_eq_false (by omega)] <;> rfl
      have c1 : (its.toArray.isEmpty || k == 1) = false := by
        rw [hi, Bool.false_or]
        exact beq_eq_false_iff_ne.mpr hk1
      have c2 : (decide (k ≤ 0) || its.toArray.isEmpty) = true := by rw [decide_eq_true hk]; rfl
      refine wpAny_binaryOp_repeat_ref (T := "tuple") (U := "int") (by decide) ⟨_, ho, rfl⟩ (fun s' => typeIs_int s' k t) noFill_tuple_mul F.fills_int_mul F.slot_int_rmul repeat_tuple F.slot_int_index.lookup
        (call_meets F.slot_int_rmul (typeIs_int s k t) F.entry_int_rmul (F.args_int_rmul_2 _ _) (int_rmul_tuple k t l its.toArray n dd sl)
          ⟨ho, rfl, ⟨_, ho, rfl⟩, call_meets F.slot_tuple_mul ⟨_, ho, rfl⟩ F.entry_tuple_mul (F.args_tuple_mul_2 _ _) (tuple_mul_none l its.toArray n dd sl k t c0 c1 c2) ⟨ho, ?_⟩⟩)
      refine ⟨.ref s.heap.objs.size, _, I.laid (t' := s.toks) (o := .tup []) (fun b ob q => Heap.get?_push_of_some _ q) (Nat.le_refl _) ?_, rfl, q1 hne hk _ (I.hok.fresh (Nat.le_refl _))⟩
      exact ⟨Nat.zero_le _, [], .nil, IsTup.new _ _⟩
    · exact op_repT pins s σ H _ _ v u Q I rx ry ⟨l, k, xs, rfl, rfl, hT, hne, by omega, h2, hz, q2 hne (by omega)⟩
end PV
set_option Elab.async false
set_option linter.all false
set_option maxRecDepth 100000
set_option maxHeartbeats 4000000
namespace PV
open PySem PySem.Spec PyProof.Rows L2
variable [Tabs]

/-! ## rules that the hand layer lacks -/
section
variable {X : Cx}
def CFdiv (i j : Int) : Prop := j ≠ 0 ∧ Builtin.divisionGoesByPylong i j = false
theorem op_fdivX : OpR X (binaryOp .FloorDiv) (rI CFdiv fun i j => .int (i.fdiv j)) := opI fun _ _ _ _ _ _ _ hc q => floordiv_int hc.1 q (.inl hc.2)
theorem op_mulX : OpR X (binaryOp .Mult) (rI IntMulOk fun i j => .int (i * j)) := opI fun _ _ _ _ _ _ _ hc q => mul_int q hc
def CPowX (i j : Int) : Prop := 0 ≤ j ∧ (Builtin.Int.intBits i : Int) * j ≤ 2 ^ 27
theorem op_powX : OpR X (binaryOp .Pow) (rI CPowX fun i j => .int (i ^ j.toNat)) := opI fun _ _ _ _ _ _ _ hc q => pow_int hc.1 hc.2 q
end
theorem _root_.L2.PE.imp {X : Cx} {e : Expr} {t t' : TE} (h : PE X e t) (i : ∀ σ H Q, t' σ H Q → t σ H Q) : PE X e t' := ⟨fun pins s σ H Q I hw => h.run pins s σ H Q I (i σ H Q hw)⟩
theorem _root_.L2.PT.imp {X : Cx} {e : Expr} {t t' : TT} (h : PT X e t) (i : ∀ σ H Q, t' σ H Q → t σ H Q) : PT X e t' := ⟨fun pins s σ H Q I hw => h.run pins s σ H Q I (i σ H Q hw)⟩
theorem _root_.L2.PA.imp {X : Cx} {e : List Expr} {t t' : TA} (h : PA X e t) (i : ∀ σ H Q, t' σ H Q → t σ H Q) : PA X e t' := ⟨fun pos pins s σ H Q I hw => h.run pos pins s σ H Q I (i σ H Q hw)⟩
theorem _root_.L2.PS.imp {X : Cx} {e : Stmt} {t t' : TS} (h : PS X e t) (i : ∀ σ H Q, t' σ H Q → t σ H Q) : PS X e t' := ⟨fun pins s σ H Q I hw => h.run pins s σ H Q I (i Q σ H hw)⟩

/-! ## values: equality, kinds -/
mutual
def D.py : D → PyData
  | .non => .none | .bl b => .bool b | .int i => .int i | .str x => .str x
  | .tup l => .tuple (pys l) | .lst _ l => .list (pys l) | .scr l => .list (pys l) | .adr _ => .dict []
def pys : List D → List PyData
  | [] => []
  | d :: l => d.py :: pys l
end
theorem pys_map : ∀ l : List D, pys l = l.map D.py
  | [] => rfl
  | d :: l => by simp [pys, pys_map l]
def D.ty : D → Option String
  | .non => some "NoneType" | .bl _ => some "bool" | .int _ => some "int" | .str _ => some "str" | .tup _ => some "tuple" | .lst _ _ => some "list" | .scr _ => some "list" | .adr _ => none
section
variable {K : PySem.W.Frag} {H : Hp} {F : Addr → Prop} {B : List Addr}
mutual
theorem Ow.dp : ∀ (d : D) (v : V) (A : List Addr), Ow K H F v d A → d.py.canLay0 = true → Dp K H v d.py
  | .non, v, A, h, _ => by simp only [Ow] at h; rw [h.2]; exact .non
  | .bl b, v, A, h, _ => by simp only [Ow] at h; rw [h.2]; exact .bl b
  | .int i, v, A, h, _ => by simp only [Ow] at h; rw [h.2]; exact .int i
  | .str x, v, A, h, _ => by simp only [Ow] at h; rw [h.2]; exact .str x
  | .adr x, v, A, h, z => by simp [D.py, PyData.canLay0] at z
  | .tup l, v, A, h, z => by
    simp only [Ow] at h
    obtain ⟨_, a, xs, e, q, r⟩ := h
    rw [e]
    exact .tup q (FzL.dp l xs r (by simpa only [D.py, PyData.canLay0] using z))
  | .scr l, v, A, h, z => by
    simp only [Ow] at h
    obtain ⟨_, a, xs, e, q, r⟩ := h
    rw [e]
    exact .lst q.sq (FzL.dp l xs r (by simpa only [D.py, PyData.canLay0] using z))
  | .lst false l, v, A, h, z => by
    simp only [Ow] at h
    obtain ⟨_, a, xs, e, q, r⟩ := h
    rw [e]
    exact .lst q.sq (FzL.dp l xs r (by simpa only [D.py, PyData.canLay0] using z))
  | .lst true l, v, A, h, z => by
    simp only [Ow] at h
    obtain ⟨a, xs, As, e, q, _, r⟩ := h
    rw [e]
    exact .lst (.inl (.inl q)) (OwL.dp l xs As r (by simpa only [D.py, PyData.canLay0] using z))
theorem OwL.dp : ∀ (l : List D) (xs : List V) (A : List Addr), OwL K H F xs l A → PyData.canLayAll0 (pys l) = true → DpAll K H xs (pys l)
  | [], xs, A, h, _ => by simp only [OwL] at h; rw [h.1]; exact .nil
  | d :: l, xs, A, h, z => by
    simp only [OwL] at h
    simp only [pys, PyData.canLayAll0, Bool.and_eq_true] at z
    obtain ⟨y, ys, A1, A2, e, _, q, r⟩ := h
    rw [e]
    exact .cons (Ow.dp d y A1 q z.1) (OwL.dp l ys A2 r z.2)
theorem FzL.dp : ∀ (l : List D) (xs : List V), FzL K H F xs l → PyData.canLayAll0 (pys l) = true → DpAll K H xs (pys l)
  | [], xs, h, _ => by simp only [FzL] at h; rw [h]; exact .nil
  | d :: l, xs, h, z => by
    simp only [FzL] at h
    simp only [pys, PyData.canLayAll0, Bool.and_eq_true] at z
    obtain ⟨y, ys, e, q, r⟩ := h
    rw [e]
    exact .cons (Ow.dp d y [] q.ow z.1) (FzL.dp l ys r z.2)
end
theorem OwB.dp {v : V} {d : D} (h : OwB K H F B v d) (z : d.py.canLay0 = true) : Dp K H v d.py := let ⟨A, h, _⟩ := h; Ow.dp d v A h z
theorem sqL_ty {a : Addr} {xs : List V} (h : SqL K H a xs) : TyX K H (.ref a) (.type "list") := by
  rcases h with (h | ⟨o, h⟩) | ⟨o, its, n, h, c, _⟩
  · exact .base (.lst h)
  · exact .base (.frz h)
  · exact .kList h c
theorem sqT_ty {a : Addr} {xs : List V} (h : SqT K H a xs) : TyX K H (.ref a) (.type "tuple") := by
  rcases h with (h | ⟨o, h⟩) | ⟨o, its, n, h, c, _⟩
  · exact .base (.tup h)
  · exact .fTuple h
  · exact .kTuple h c
theorem OwB.ty {v : V} {d : D} {T : String} (h : OwB K H F B v d) (z : d.ty = some T) : TyX K H v (.type T) := by
  cases d with
  | non => cases z; rw [h.non]; exact .base .non
  | bl b => cases z; rw [h.bl]; exact .base (.bl b)
  | int i => cases z; rw [h.int]; exact .base (.int i)
  | str x => cases z; rw [h.str]; exact .base (.str x)
  | tup l => cases z; obtain ⟨a, xs, e, q, _⟩ := h.tup; rw [e]; exact sqT_ty q
  | lst o l => cases z; obtain ⟨a, xs, e, q, _⟩ := h.lst; rw [e]; exact sqL_ty (.inl (.inl q))
  | scr l => cases z; obtain ⟨a, xs, e, q, _⟩ := h.scr; rw [e]; exact sqL_ty q
  | adr a => cases z
end

/-! ## leaves -/
section
variable {X : Cx} {cv : Nat → Value} {W : WX}
theorem sm_plain {K : PySem.W.Frag} {d : D} {v : V} (p : ∀ H F, Fz K H F v d) {σ : L2.St} {H : Hp} {Q : VK} (h : sm K cv W (rD K) (fun e => .ok d e) σ H Q) : Q v H := by
  obtain ⟨F, env, B, w, f⟩ := h
  exact f v H F [] B Ext.refl w (p H F).ow w.dis Sub.refl
def sC (d : D) : SE := fun e => .ok d e
theorem px_int {i : Int} {j : Nat} {pos : Pos} : PE X (.Constant (.int i) j pos) (sm X.K cv W (rD X.K) (sC (.int i))) := pe_int.imp fun σ H Q h => sm_plain (fun _ _ => by simp only [Fz]) h
theorem px_bl {i : Bool} {j : Nat} {pos : Pos} : PE X (.Constant (.bool i) j pos) (sm X.K cv W (rD X.K) (sC (.bl i))) := pe_bl.imp fun σ H Q h => sm_plain (fun _ _ => by simp only [Fz]) h
theorem px_non {j : Nat} {pos : Pos} : PE X (.Constant .none j pos) (sm X.K cv W (rD X.K) (sC .non)) := pe_non.imp fun σ H Q h => sm_plain (fun _ _ => by simp only [Fz]) h
theorem px_str {i : Str} {j : Nat} {pos : Pos} : PE X (.Constant (.str i) j pos) (sm X.K cv W (rD X.K) (sC (.str i))) := pe_str.imp fun σ H Q h => sm_plain (fun _ _ => by simp only [Fz]) h
theorem px_glob {x : Str} {v : V} {d : D} {u : Value} {pos : Pos} (hg : Gl X x) (hm : X.mg x = some u) (r : RelV v u) (p : ∀ H F, Fz X.K H F v d) (hd : (x == ("__debug__" : Str)) = false) : PE X (.Name x pos) (sm X.K cv W (rD X.K) (sC d)) :=
  (pe_glob hg hm r hd).imp fun σ H Q h => sm_plain p h
/-- a local name where the value goes on: its lists are shared from here on -/
def sVar (i : Nat) : SE := fun e => match e[i]? with
  | some (some d) => .ok d.fz (e.set i (some d.fz))
  | _ => .bad
theorem sVar_read {K : PySem.W.Frag} {i : Nat} {σ : L2.St} {H : Hp} {Q : VK} (h : sm K cv W (rD K) (sVar i) σ H Q) : tVar i σ H Q := by
  obtain ⟨F, env, B, w, f⟩ := h
  simp only [sVar] at f
  split at f
  · rename_i d q
    obtain ⟨v, A, B', h1, h2, h3, h4⟩ := EnvR.take _ _ _ i _ w.er q
    refine ⟨v, h1, ?_⟩
    have dd : Dis F (A ++ B') := w.dis.perm h3
    have t : ∀ a ∈ A, H a ≠ none := fun a ha => by
      obtain ⟨xs, e⟩ := Ow.there _ _ _ h2 a ha
      rw [e]; simp
    have fzd : Fz K H (fun a => F a ∨ a ∈ A) v d.fz := Ow.fz (fun a h => .inl h) _ _ _ h2 fun a h => .inr h
    have w' : Wl K σ H F (env.set i none) B' := ⟨h4, dd.right, w.tr, w.tab⟩
    have w2 := w'.freeze dd t
    obtain ⟨B2, e2, p2⟩ := EnvR.put fzd.ow _ _ _ i w2.er (by
      obtain ⟨hi, _⟩ := List.getElem?_eq_some_iff.mp q
      simp [hi])
    have hσ : σ.set i (some v) = σ := by
      obtain ⟨hi, e⟩ := List.getElem?_eq_some_iff.mp h1
      rw [← e]; simp
    rw [hσ, List.set_set] at e2
    have w3 : Wl K σ H (fun a => F a ∨ a ∈ A) (env.set i (some d.fz)) B2 := ⟨e2, w2.dis.perm (by simpa using p2.symm), w2.tr, w2.tab⟩
    exact f v H _ [] B2 (Ext.freeze (fun a h => h3.mem_iff.mpr (List.mem_append_left _ h)) t) w3 fzd.ow w3.dis
      (fun a h => .inl (h3.mem_iff.mpr (List.mem_append_right _ (by simpa using p2.mem_iff.mp h))))
  · exact False.elim f
theorem px_var {i : Nat} {x : Str} {pos : Pos} (hN : X.N[i]? = some x) (hv : Vis X.env.scope x) (hd : (x == ("__debug__" : Str)) = false) (hcd : (x == ("__classdict__" : Str)) = false) : PE X (.Name x pos) (sm X.K cv W (rD X.K) (sVar i)) :=
  (pe_var hN hv hd hcd).imp fun σ H Q h => sVar_read h
/-- .. where it is looked at, and stays with the name -/
def oVar (i : Nat) : SO := fun e => match e[i]? with
  | some (some _) => .ok (.slot i) e
  | _ => .bad
theorem oVar_read {K : PySem.W.Frag} {i : Nat} {σ : L2.St} {H : Hp} {Q : VK} (h : sm K cv W (rA K) (oVar i) σ H Q) : tVar i σ H Q := by
  obtain ⟨F, env, B, w, f⟩ := h
  simp only [oVar] at f
  split at f
  · rename_i d q
    obtain ⟨v, A, B', h1, h2, h3, h4⟩ := EnvR.take _ _ _ i _ w.er q
    exact ⟨v, h1, f v H F [] B Ext.refl w ⟨rfl, h1⟩ w.dis Sub.refl⟩
  · exact False.elim f
theorem po_var {i : Nat} {x : Str} {pos : Pos} (hN : X.N[i]? = some x) (hv : Vis X.env.scope x) (hd : (x == ("__debug__" : Str)) = false) (hcd : (x == ("__classdict__" : Str)) = false) : PE X (.Name x pos) (sm X.K cv W (rA X.K) (oVar i)) :=
  (pe_var hN hv hd hcd).imp fun σ H Q h => oVar_read h
def oTmp (d : SE) : SO := fun e => (d e).bind fun r e' => .ok (.tmp r) e'
theorem oTmp_read {K : PySem.W.Frag} {d : SE} {σ : L2.St} {H : Hp} {Q : VK} (h : sm K cv W (rA K) (oTmp d) σ H Q) : sm K cv W (rD K) d σ H Q := by
  obtain ⟨F, env, B, w, f⟩ := h
  refine ⟨F, env, B, w, ?_⟩
  simp only [oTmp] at f
  cases e : d env with
  | bad => rw [e] at f; exact f
  | exc c e' => rw [e] at f; exact f
  | ok r e' =>
    rw [e] at f
    exact fun v H' F' A B' x w' p dd s => f v H' F' A B' x w' p dd s
theorem po_tmp {e : Expr} {d : SE} (h : PE X e (sm X.K cv W (rD X.K) d)) : PE X e (sm X.K cv W (rA X.K) (oTmp d)) := h.imp fun σ H Q => oTmp_read

/-! ## two operands -/
def sTwo (o1 o2 : SO) (f : D → D → Option D) : SE := fun e => (o1 e).bind fun a e1 => (o2 e1).bind fun b e2 =>
  match rsv e2 a, rsv e2 b with
  | some x, some y => (match f x y with
    | some r => .ok r e2
    | none => .bad)
  | _, _ => .bad
/-- a reading by values serves f -/
def Rule2 (K : PySem.W.Frag) (f : D → D → Option D) (r : R2) : Prop :=
  ∀ {cv : Nat → Value} {W : WX} {σ : L2.St} {H : Hp} {F : Addr → Prop} {A B : List Addr} {env : Env} {x y : V} {dx dy d : D} {Q : VK}, Wl K σ H F env B → Dis F (A ++ B) → (∀ a ∈ A, H a ≠ none) →
    OwB K H (fun a => F a ∨ a ∈ A) B x dx → OwB K H (fun a => F a ∨ a ∈ A) B y dy → f dx dy = some d → Fin K cv W (rD K) σ H F (A ++ B) Q (.ok d env) → r x y H Q
theorem sTwo_read {K : PySem.W.Frag} {o1 o2 : SO} {f : D → D → Option D} {r : R2} (hr : Rule2 K f r) {σ : L2.St} {H : Hp} {Q : VK} (h : sm K cv W (rD K) (sTwo o1 o2 f) σ H Q) :
    tOp r (sm K cv W (rA K) o1) (sm K cv W (rA K) o2) σ H Q := by
  refine (sm.run0 (P := rA K) (m := o1) h).mono fun v H1 ⟨F2, env2, a, A2, B2, w2, p2, d2, f2⟩ => ?_
  refine (sm.run (P := rA K) (st_A.h σ v a) w2 p2 d2 f2).mono fun y H4 ⟨F5, env5, b, A5, B5, w5, pa, pb, d5, f5⟩ => ?_
  split at f5
  · rename_i dx dy q1 q2
    split at f5
    · rename_i d q3
      have d6 : Dis F5 ((A2 ++ A5) ++ B5) := by rw [List.append_assoc]; exact d5
      have f6 : Fin K cv W (rD K) σ H4 F5 ((A2 ++ A5) ++ B5) Q (.ok d env5) := by rw [List.append_assoc]; exact f5
      have t : ∀ c ∈ A2 ++ A5, H4 c ≠ none := fun c hc => (List.mem_append.mp hc).elim (st_A.there pa c) (st_A.there pb c)
      have w6 := w5.freeze d6 t
      exact hr w5 d6 t (rsv_ok w6 (fun c h => .inl h) (fun c h => .inr (List.mem_append_left _ h)) pa q1) (rsv_ok w6 (fun c h => .inl h) (fun c h => .inr (List.mem_append_right _ h)) pb q2) q3 f6
    · exact False.elim f5
  · exact False.elim f5
theorem px_bin {op : Operator} {r : R2} {f : D → D → Option D} {a b : Expr} {o1 o2 : SO} {pos : Pos} (ho : OpR X (binaryOp op) r) (hr : Rule2 X.K f r) (ha : PE X a (sm X.K cv W (rA X.K) o1)) (hb : PE X b (sm X.K cv W (rA X.K) o2)) :
    PE X (.BinOp a op b pos) (sm X.K cv W (rD X.K) (sTwo o1 o2 f)) := (pe_op ho ha hb).imp fun σ H Q => sTwo_read hr
theorem px_cmp {op : CmpOp} {r : R2} {f : D → D → Option D} {a b : Expr} {o1 o2 : SO} {pos : Pos} (ho : OpR X (compareOp op) r) (hr : Rule2 X.K f r) (hm : behindInMarks op b = false) (ha : PE X a (sm X.K cv W (rA X.K) o1)) (hb : PE X b (sm X.K cv W (rA X.K) o2)) :
    PE X (.Compare a [op] [b] pos) (sm X.K cv W (rD X.K) (sTwo o1 o2 f)) := (pe_cmpR ho ha hb hm).imp fun σ H Q => sTwo_read hr
theorem px_ix {r : R2} {f : D → D → Option D} {a b : Expr} {o1 o2 : SO} {pos : Pos} (ho : IxR X r) (hr : Rule2 X.K f r) (hs : PlainIx b) (ha : PE X a (sm X.K cv W (rA X.K) o1)) (hb : PE X b (sm X.K cv W (rA X.K) o2)) :
    PE X (.Subscript a b pos) (sm X.K cv W (rD X.K) (sTwo o1 o2 f)) := (pe_ix ho ha hb hs).imp fun σ H Q => sTwo_read hr
theorem Rule2.or {K : PySem.W.Frag} {f g : D → D → Option D} {r r' : R2} (h : Rule2 K f r) (h' : Rule2 K g r') : Rule2 K (fun x y => (f x y).orElse fun _ => g x y) (fun x y H Q => r x y H Q ∨ r' x y H Q) := by
  intro cv W σ H F A B env x y dx dy d Q w dd t ox oy e fin
  dsimp only at e
  cases q : f dx dy with
  | none => rw [q] at e; exact .inr (h' w dd t ox oy e fin)
  | some z => rw [q] at e; cases e; exact .inl (h w dd t ox oy q fin)
end
end PV
set_option Elab.async false
set_option linter.all false
set_option maxRecDepth 100000
set_option maxHeartbeats 4000000
namespace PV
open PySem PySem.Spec PyProof.Rows L2
variable [Tabs]

/-! ## the operators by values -/
section
variable {K : PySem.W.Frag}
/-- the end with a plain value -/
theorem fin_val {cv : Nat → Value} {W : WX} {σ : L2.St} {H : Hp} {F : Addr → Prop} {A B : List Addr} {env : Env} {d : D} {v : V} {Q : VK} (w : Wl K σ H F env B) (dd : Dis F (A ++ B)) (t : ∀ a ∈ A, H a ≠ none)
    (f : Fin K cv W (rD K) σ H F (A ++ B) Q (.ok d env)) (p : Fz K H (fun a => F a ∨ a ∈ A) v d) : Q v H := Fin.plain w dd t f p

def fI (C : Int → Int → Bool) (g : Int → Int → D) : D → D → Option D
  | .int i, .int j => if C i j then some (g i j) else none
  | _, _ => none
theorem rule_I {C : Int → Int → Bool} {C' : Int → Int → Prop} {g : Int → Int → D} {gv : Int → Int → V} (hC : ∀ i j, C i j = true → C' i j) (hg : ∀ i j H F, Fz K H F (gv i j) (g i j)) : Rule2 K (fI C g) (rI C' gv) := by
  intro cv W σ H F A B env x y dx dy d Q w dd t ox oy e fin
  cases dx <;> cases dy <;> try (simp [fI] at e; done)
  rename_i i j
  simp only [fI] at e
  split at e
  · rename_i hc
    cases e
    exact ⟨i, j, ox.int, oy.int, hC i j hc, fin_val w dd t fin (hg i j _ _)⟩
  · cases e
theorem rule_I0 {g : Int → Int → D} {gv : Int → Int → V} (hg : ∀ i j H F, Fz K H F (gv i j) (g i j)) : Rule2 K (fI (fun _ _ => true) g) (rI0 gv) := by
  intro cv W σ H F A B env x y dx dy d Q w dd t ox oy e fin
  cases dx <;> cases dy <;> try (simp [fI] at e; done)
  rename_i i j
  simp only [fI, if_true] at e
  cases e
  exact ⟨i, j, ox.int, oy.int, fin_val w dd t fin (hg i j _ _)⟩
theorem fz_int {i : Int} {H : Hp} {F : Addr → Prop} : Fz K H F (.int i) (.int i) := by simp only [Fz]
theorem fz_bl {i : Bool} {H : Hp} {F : Addr → Prop} : Fz K H F (.bl i) (.bl i) := by simp only [Fz]
theorem fz_str {i : Str} {H : Hp} {F : Addr → Prop} : Fz K H F (.str i) (.str i) := by simp only [Fz]

def mulOk (i j : Int) : Bool := !(decide (Builtin.Int.intBits i > shortFactorBits) && decide (Builtin.Int.intBits j > shortFactorBits) && Builtin.Int.intTooBig (Builtin.Int.intBits i + Builtin.Int.intBits j))
theorem mulOk_ok {i j : Int} (h : mulOk i j = true) : IntMulOk i j := by
  unfold mulOk at h
  unfold IntMulOk
  intro z
  rw [z] at h
  cases h
def divOk (i j : Int) : Bool := decide (j ≠ 0) && !Builtin.divisionGoesByPylong i j
theorem divOk_ok {i j : Int} (h : divOk i j = true) : CFdiv i j := by
  unfold divOk at h
  simp only [Bool.and_eq_true, decide_eq_true_eq, Bool.not_eq_true'] at h
  exact h
def powOk (i j : Int) : Bool := decide (0 ≤ j) && decide ((Builtin.Int.intBits i : Int) * j ≤ 2 ^ 27)
theorem powOk_ok {i j : Int} (h : powOk i j = true) : CPowX i j := by
  unfold powOk at h
  simp only [Bool.and_eq_true, decide_eq_true_eq] at h
  exact h

/-! + -/
def fCatL : D → D → Option D
  | .lst _ l, .lst _ m => if isFzs l && isFzs m && decide (l.length + m.length ≤ sizeLine) then some (.lst true (l ++ m)) else none
  | _, _ => none
theorem rule_catL : Rule2 K fCatL rCat := by
  intro cv W σ H F A B env x y dx dy d Q w dd t ox oy e fin
  cases dx <;> cases dy <;> try (simp [fCatL] at e; done)
  rename_i o l o' m
  simp only [fCatL] at e
  split at e
  · rename_i hc
    simp only [Bool.and_eq_true, decide_eq_true_eq] at hc
    cases e
    obtain ⟨a, xs, rfl, q1, e1, r1⟩ := ox.lst
    obtain ⟨b, ys, rfl, q2, e2, r2⟩ := oy.lst
    exact ⟨a, b, xs, ys, rfl, rfl, q1, q2, by rw [e1, e2]; exact hc.2, fun p hp => Fin.newL hp w dd t fin ((r1 hc.1.1).append (r2 hc.1.2))⟩
  · cases e
def fCatT : D → D → Option D
  | .tup l, .tup m => if decide (l.length + m.length ≤ sizeLine) then some (.tup (l ++ m)) else none
  | _, _ => none
theorem rule_catT : Rule2 K fCatT (rCatA K) := by
  intro cv W σ H F A B env x y dx dy d Q w dd t ox oy e fin
  cases dx <;> cases dy <;> try (simp [fCatT] at e; done)
  rename_i l m
  simp only [fCatT] at e
  split at e
  · rename_i hc
    simp only [decide_eq_true_eq] at hc
    cases e
    obtain ⟨a, xs, rfl, q1, r1⟩ := ox.tup
    obtain ⟨b, ys, rfl, q2, r2⟩ := oy.tup
    refine ⟨a, b, xs, ys, rfl, rfl, q1, q2, by rw [r1.length, r2.length]; exact hc, fun e => ?_, fun _ e => ?_, fun _ _ p hp => Fin.newT hp w dd t fin (r1.append r2)⟩
    · subst e
      have e2 := List.eq_nil_of_length_eq_zero r1.length.symm
      subst e2
      exact fin_val w dd t fin (by simp only [Fz, List.nil_append]; exact ⟨b, ys, rfl, q2, r2⟩)
    · subst e
      have e2 := List.eq_nil_of_length_eq_zero r2.length.symm
      subst e2
      exact fin_val w dd t fin (by simp only [Fz, List.append_nil]; exact ⟨a, xs, rfl, q1, r1⟩)
  · cases e
def fCatS : D → D → Option D
  | .str x, .str y => if decide (x.length + y.length ≤ sizeLine) then some (.str (x ++ y)) else none
  | _, _ => none
theorem rule_catS : Rule2 K fCatS (fun x y H Q => ∃ i j, x = .str i ∧ y = .str j ∧ i.length + j.length ≤ sizeLine ∧ Q (.str (i ++ j)) H) := by
  intro cv W σ H F A B env x y dx dy d Q w dd t ox oy e fin
  cases dx <;> cases dy <;> try (simp [fCatS] at e; done)
  rename_i i j
  simp only [fCatS] at e
  split at e
  · rename_i hc
    simp only [decide_eq_true_eq] at hc
    cases e
    exact ⟨i, j, ox.str, oy.str, hc, fin_val w dd t fin fz_str⟩
  · cases e

theorem FzL.rep {H : Hp} {F : Addr → Prop} {l : List D} {xs : List V} (h : FzL K H F xs l) : ∀ n : Nat, FzL K H F (List.replicate n xs).flatten (List.replicate n l).flatten
  | 0 => by simp [FzL]
  | n + 1 => by
    rw [List.replicate_succ, List.replicate_succ, List.flatten_cons, List.flatten_cons]
    exact h.append (FzL.rep h n)
/-! * -/
def fRepL : D → D → Option D
  | .lst _ l, .int k => if isFzs l && decide (-1000000 ≤ k) && decide (k ≤ 1000000) && decide (l.length * k.toNat ≤ sizeLine) then some (.lst true (List.replicate k.toNat l).flatten) else none
  | _, _ => none
theorem rule_repL : Rule2 K fRepL rRep := by
  intro cv W σ H F A B env x y dx dy d Q w dd t ox oy e fin
  cases dx <;> cases dy <;> try (simp [fRepL] at e; done)
  rename_i o l k
  simp only [fRepL] at e
  split at e
  · rename_i hc
    simp only [Bool.and_eq_true, decide_eq_true_eq] at hc
    cases e
    obtain ⟨a, xs, rfl, q1, e1, r1⟩ := ox.lst
    exact ⟨a, k, xs, rfl, oy.int, q1, by omega, by omega, by rw [e1]; exact hc.2, fun p hp => Fin.newL hp w dd t fin ((r1 hc.1.1.1).rep _)⟩
  · cases e
def fRepT : D → D → Option D
  | .tup l, .int k => if decide (-1000 ≤ k) && decide (k ≤ 1000) && decide (l.length ≤ 1000) then some (.tup (List.replicate k.toNat l).flatten) else none
  | _, _ => none
theorem rule_repT : Rule2 K fRepT (rRepTX K) := by
  intro cv W σ H F A B env x y dx dy d Q w dd t ox oy e fin
  cases dx <;> cases dy <;> try (simp [fRepT] at e; done)
  rename_i l k
  simp only [fRepT] at e
  split at e
  · rename_i hc
    simp only [Bool.and_eq_true, decide_eq_true_eq] at hc
    cases e
    obtain ⟨a, xs, rfl, q1, r1⟩ := ox.tup
    refine ⟨a, k, xs, rfl, oy.int, q1, hc.1.1, hc.1.2, by rw [r1.length]; exact hc.2, fun z => ?_, fun _ z p hp => ?_, fun _ _ p hp => Fin.newT hp w dd t fin (r1.rep _)⟩
    · refine fin_val w dd t fin ?_
      simp only [Fz]
      rcases z with z | z
      · subst z
        have e2 := List.eq_nil_of_length_eq_zero r1.length.symm
        subst e2
        exact ⟨a, [], rfl, q1, by simp [FzL]⟩
      · subst z
        exact ⟨a, xs, rfl, q1, by simpa using r1⟩
    · have e0 : k.toNat = 0 := by omega
      rw [e0] at fin
      exact Fin.newT hp w dd t fin (by simp [FzL])
  · cases e

/-! comparisons -/
def okEq (d : D) : Bool := SeqAt.shaped d.py
theorem okEq_lay {d : D} (h : SeqAt.shaped d.py = true) : d.py.canLay0 = true := by
  simp only [SeqAt.shaped, Bool.and_eq_true] at h
  exact h.1
def fEq (x y : D) : Option D := if okEq x && okEq y then some (.bl (PyData.eqv x.py y.py)) else none
def fNe (x y : D) : Option D := if okEq x && okEq y then some (.bl (!PyData.eqv x.py y.py)) else none
theorem rule_eq : Rule2 K fEq (rEqD K) := by
  intro cv W σ H F A B env x y dx dy d Q w dd t ox oy e fin
  simp only [fEq] at e
  split at e
  · rename_i hc
    simp only [Bool.and_eq_true] at hc
    cases e
    exact ⟨_, _, ox.dp (okEq_lay hc.1), oy.dp (okEq_lay hc.2), hc.1, hc.2, fin_val w dd t fin fz_bl⟩
  · cases e
theorem rule_ne : Rule2 K fNe (rNeD K) := by
  intro cv W σ H F A B env x y dx dy d Q w dd t ox oy e fin
  simp only [fNe] at e
  split at e
  · rename_i hc
    simp only [Bool.and_eq_true] at hc
    cases e
    exact ⟨_, _, ox.dp (okEq_lay hc.1), oy.dp (okEq_lay hc.2), hc.1, hc.2, fin_val w dd t fin fz_bl⟩
  · cases e
def fB (g : Bool → Bool → Bool) : D → D → Option D
  | .bl a, .bl b => some (.bl (g a b))
  | _, _ => none
theorem rule_isB : Rule2 K (fB fun a b => decide (a = b)) rIsB := by
  intro cv W σ H F A B env x y dx dy d Q w dd t ox oy e fin
  cases dx <;> cases dy <;> try (simp [fB] at e; done)
  simp only [fB] at e
  cases e
  exact ⟨_, _, ox.bl, oy.bl, fin_val w dd t fin fz_bl⟩
theorem rule_notB : Rule2 K (fB fun a b => !decide (a = b)) rNotB := by
  intro cv W σ H F A B env x y dx dy d Q w dd t ox oy e fin
  cases dx <;> cases dy <;> try (simp [fB] at e; done)
  simp only [fB] at e
  cases e
  exact ⟨_, _, ox.bl, oy.bl, fin_val w dd t fin fz_bl⟩
def fS (g : Str → Str → Bool) : D → D → Option D
  | .str a, .str b => some (.bl (g a b))
  | _, _ => none
theorem rule_ltS : Rule2 K (fS fun i j => decide (i.cps.toList < j.cps.toList)) (fun x y H Q => ∃ i j, x = .str i ∧ y = .str j ∧ Q (.bl (decide (i.cps.toList < j.cps.toList))) H) := by
  intro cv W σ H F A B env x y dx dy d Q w dd t ox oy e fin
  cases dx <;> cases dy <;> try (simp [fS] at e; done)
  simp only [fS] at e
  cases e
  exact ⟨_, _, ox.str, oy.str, fin_val w dd t fin fz_bl⟩
/-- ints of a row -/
def intsOf : List D → Option (List Int)
  | [] => some []
  | .int i :: l => (intsOf l).map (i :: ·)
  | _ :: _ => none
theorem ints_map : ∀ {l : List D} {ns : List Int}, intsOf l = some ns → l = ns.map D.int
  | [], ns, h => by cases h; rfl
  | .int i :: l, ns, h => by
    simp only [intsOf, Option.map_eq_some_iff] at h
    obtain ⟨ms, h1, rfl⟩ := h
    rw [ints_map h1]; rfl
  | .non :: l, ns, h => by simp [intsOf] at h
  | .bl _ :: l, ns, h => by simp [intsOf] at h
  | .str _ :: l, ns, h => by simp [intsOf] at h
  | .tup _ :: l, ns, h => by simp [intsOf] at h
  | .lst _ _ :: l, ns, h => by simp [intsOf] at h
  | .scr _ :: l, ns, h => by simp [intsOf] at h
  | .adr _ :: l, ns, h => by simp [intsOf] at h
theorem ints_of (ns : List Int) : intsOf (ns.map D.int) = some ns := by
  induction ns with
  | nil => rfl
  | cons n ns ih => simp [intsOf, ih]
theorem FzL.toInts {H : Hp} {F : Addr → Prop} : ∀ {ns : List Int} {xs : List V}, FzL K H F xs (ns.map D.int) → xs = ns.map V.int
  | [], xs, h => by simpa [FzL] using h
  | n :: ns, xs, h => by
    simp only [List.map_cons, FzL] at h
    obtain ⟨y, ys, e, q, r⟩ := h
    simp only [Fz] at q
    rw [e, q, FzL.toInts r]; rfl
def fTI (g : List Int → List Int → Bool) : D → D → Option D
  | .tup a, .tup b => (match intsOf a, intsOf b with
    | some x, some y => some (.bl (g x y))
    | _, _ => none)
  | _, _ => none
theorem rule_TI {g : List Int → List Int → Bool} {r : R2} (hr : ∀ x y H Q, (∃ a b ns ms, x = .ref a ∧ y = .ref b ∧ SqT K H a (ns.map V.int) ∧ SqT K H b (ms.map V.int) ∧ Q (.bl (g ns ms)) H) → r x y H Q) : Rule2 K (fTI g) r := by
  intro cv W σ H F A B env x y dx dy d Q w dd t ox oy e fin
  cases dx <;> cases dy <;> try (simp [fTI] at e; done)
  rename_i l m
  simp only [fTI] at e
  split at e
  · rename_i ns ms h1 h2
    cases e
    obtain ⟨a, xs, rfl, q1, r1⟩ := ox.tup
    obtain ⟨b, ys, rfl, q2, r2⟩ := oy.tup
    rw [ints_map h1] at r1
    rw [ints_map h2] at r2
    rw [r1.toInts] at q1
    rw [r2.toInts] at q2
    exact hr _ _ _ _ ⟨a, b, ns, ms, rfl, rfl, q1, q2, fin_val w dd t fin fz_bl⟩
  · cases e
def leTI (ns ms : List Int) : Bool := Ob.lexAt (fun j => decide (ns.getD j 0 = ms.getD j 0)) (fun j => decide (ns.getD j 0 ≤ ms.getD j 0)) (decide (ns.length ≤ ms.length)) 0 (min ns.length ms.length)
theorem rule_ltT : Rule2 K (fTI HT.lexLt) (rLtT K) := rule_TI fun _ _ _ _ ⟨a, b, ns, ms, e1, e2, h1, h2, q⟩ => ⟨a, b, ns, ms, e1, e2, h1, h2, q⟩
theorem rule_leT : Rule2 K (fTI leTI) (rLeT K) := rule_TI fun _ _ _ _ ⟨a, b, ns, ms, e1, e2, h1, h2, q⟩ => ⟨a, b, ns, ms, e1, e2, h1, h2, q⟩
/-! in -/
def fInL (neg : Bool) : D → D → Option D
  | x, .lst _ l => if okEq x && SeqAt.shaped (.list (pys l)) then some (.bl (if neg then !((pys l).any fun z => PyData.eqv z x.py) else (pys l).any fun z => PyData.eqv z x.py)) else none
  | _, _ => none
theorem rule_inL : Rule2 K (fInL false) (rInD K) := by
  intro cv W σ H F A B env x y dx dy d Q w dd t ox oy e fin
  cases dy <;> try (simp [fInL] at e; done)
  simp only [fInL] at e
  split at e
  · rename_i hc
    simp only [Bool.and_eq_true] at hc
    cases e
    exact ⟨_, _, ox.dp (okEq_lay hc.1), oy.dp (okEq_lay (d := .lst _ _) hc.2), hc.1, hc.2, fin_val w dd t fin fz_bl⟩
  · cases e
theorem rule_notInL : Rule2 K (fInL true) (rNotInD K) := by
  intro cv W σ H F A B env x y dx dy d Q w dd t ox oy e fin
  cases dy <;> try (simp [fInL] at e; done)
  simp only [fInL] at e
  split at e
  · rename_i hc
    simp only [Bool.and_eq_true] at hc
    cases e
    exact ⟨_, _, ox.dp (okEq_lay hc.1), oy.dp (okEq_lay (d := .lst _ _) hc.2), hc.1, hc.2, fin_val w dd t fin fz_bl⟩
  · cases e
/-- scalars in a tuple -/
def fInT (neg : Bool) : D → D → Option D
  | .int i, .tup l => (match intsOf l with
    | some ns => some (.bl (if neg then !(ns.any fun z => z == i) else ns.any fun z => z == i))
    | none => none)
  | _, _ => none
theorem inV_ints (i : Int) (ns : List Int) : inV (.int i) (ns.map V.int) = ns.any fun z => z == i := by
  unfold inV
  rw [List.any_map]
  congr 1
theorem rule_inT {neg : Bool} : Rule2 K (fInT neg) (rIn K neg) := by
  intro cv W σ H F A B env x y dx dy d Q w dd t ox oy e fin
  cases dx <;> cases dy <;> try (simp [fInT] at e; done)
  rename_i i l
  simp only [fInT] at e
  split at e
  · rename_i ns h1
    cases e
    obtain ⟨a, xs, rfl, q1, r1⟩ := oy.tup
    rw [ints_map h1] at r1
    rw [r1.toInts] at q1
    rw [ox.int]
    refine ⟨a, _, rfl, .inr q1, rfl, by simp [flatV], ?_⟩
    rw [inV_ints]
    exact fin_val w dd t fin (by cases neg <;> exact fz_bl)
  · cases e
def fInS (neg : Bool) : D → D → Option D
  | .str i, .str j => some (.bl (if neg then !(!(Builtin.Str.occurrences j i 0 j.length 1).isEmpty) else !(Builtin.Str.occurrences j i 0 j.length 1).isEmpty))
  | _, _ => none
theorem rule_inS : Rule2 K (fInS false) (fun x y H Q => ∃ i j, x = .str i ∧ y = .str j ∧ Q (.bl (!(Builtin.Str.occurrences j i 0 j.length 1).isEmpty)) H) := by
  intro cv W σ H F A B env x y dx dy d Q w dd t ox oy e fin
  cases dx <;> cases dy <;> try (simp [fInS] at e; done)
  simp only [fInS] at e
  cases e
  exact ⟨_, _, ox.str, oy.str, fin_val w dd t fin fz_bl⟩
theorem rule_notInS : Rule2 K (fInS true) (fun x y H Q => ∃ i j, x = .str i ∧ y = .str j ∧ Q (.bl (!(!(Builtin.Str.occurrences j i 0 j.length 1).isEmpty))) H) := by
  intro cv W σ H F A B env x y dx dy d Q w dd t ox oy e fin
  cases dx <;> cases dy <;> try (simp [fInS] at e; done)
  simp only [fInS] at e
  cases e
  exact ⟨_, _, ox.str, oy.str, fin_val w dd t fin fz_bl⟩
/-! items -/
theorem ixN_lt {n : Nat} {i : Int} {j : Nat} (h : ixN n i = some j) : j < n := by
  unfold ixN at h
  split at h <;> split at h <;> cases h <;> omega
def fIx : D → D → Option D
  | .tup l, .int i => atI l i
  | .scr l, .int i => atI l i
  | .lst _ l, .int i => if isFzs l then atI l i else none
  | .str z, .int i => if decide (z.length ≤ sizeLine) then (match atI z.cps.toList i with
    | some c => some (.str ⟨#[c]⟩)
    | none => none) else none
  | _, _ => none
theorem at_fz {H : Hp} {F : Addr → Prop} {l : List D} {xs : List V} {i : Int} {d : D} (h : FzL K H F xs l) (e : atI l i = some d) : ∃ x, atI xs i = some x ∧ Fz K H F x d := by
  unfold atI at e ⊢
  rw [h.length]
  cases q : ixN l.length i with
  | none => rw [q] at e; cases e
  | some j => rw [q] at e; exact h.get e
theorem rule_ix : Rule2 K fIx (rIx K) := by
  intro cv W σ H F A B env x y dx dy d Q w dd t ox oy e fin
  cases dx <;> cases dy <;> try (simp [fIx] at e; done)
  · rename_i z i
    simp only [fIx] at e
    split at e
    · rename_i hc
      split at e
      · rename_i c q
        cases e
        exact .inr (.inr ⟨z, i, c, ox.str, oy.int, of_decide_eq_true hc, q, fin_val w dd t fin fz_str⟩)
      · cases e
    · cases e
  · rename_i l i
    simp only [fIx] at e
    obtain ⟨a, xs, rfl, q1, r1⟩ := ox.tup
    obtain ⟨v, h1, h2⟩ := at_fz r1 e
    exact .inr (.inl ⟨a, xs, i, v, rfl, oy.int, q1, h1, fin_val w dd t fin h2⟩)
  · rename_i o l i
    simp only [fIx] at e
    split at e
    · rename_i hc
      obtain ⟨a, xs, rfl, q1, e1, r1⟩ := ox.lst
      obtain ⟨v, h1, h2⟩ := at_fz (r1 hc) e
      exact .inl ⟨a, xs, i, v, rfl, oy.int, .inl (.inl q1), h1, fin_val w dd t fin h2⟩
    · cases e
  · rename_i l i
    simp only [fIx] at e
    obtain ⟨a, xs, rfl, q1, r1⟩ := ox.scr
    obtain ⟨v, h1, h2⟩ := at_fz r1 e
    exact .inl ⟨a, xs, i, v, rfl, oy.int, q1, h1, fin_val w dd t fin h2⟩
end
end PV
set_option Elab.async false
set_option linter.all false
set_option maxRecDepth 100000
set_option maxHeartbeats 4000000
namespace PV
open PySem PySem.Spec PyProof.Rows L2 RT
/-! ## list(reversed(list)) -/
section
variable {prog : Program} {w : World} {A : Around} {E : Value → Shared → Prop} {s : Shared}
theorem list_init_rev {R : Result → Shared → Prop} {it l : Addr} {items : Array Value} (hh : A.handled = none) (hit : s.heap.IsRevIter it l ((items.size : Int) - 1)) (hl : s.heap.IsList l items) (hne : l ≠ it) (hn : items.size ≤ sizeLine) (S : Addr) (hSi : S ≠ it) (hSl : S ≠ l)
    (hS : s.heap.get? S = some { cls := .type "list", data := .seq #[] })
    (hR : ∀ h' tk acc' c', (∀ b o, b ≠ S → b ≠ it → s.heap.get? b = some o → h'.get? b = some o) → h'.get? S = some { cls := .type "list", dict := none, data := .seq acc' c', slots := #[] } →
      ItemsOf (fun i v => items[items.size - 1 - i]? = some v) acc' items.size → R (.ok (.ret .none)) { s with heap := h', toks := tk }) :
    wpAny (model prog w) A.in1 (Builtin.«list.__init__» ⟨[.ref S, .ref it], []⟩)
      (fun fin s' => match fin with | .done f => R (.ok f) s' | .again c' => c'.quiet = true ∧ codeAny (model prog w) A c' R s') (fun e s' => R (.error e) s') s := by
  have W := (Walks.listRev (prog := prog) (w := w) (A := A.in1) hh it l hne items).toS
  have hSf : S ∉ [it, l] := by simp only [List.mem_cons, List.not_mem_nil, or_false, not_or]; exact ⟨hSi, hSl⟩
  show wpAny _ _ (do let old ← Builtin.List.listItems (.ref S); Builtin.List.listUpdate (.ref S) (fun _ => #[]); letGo old.toList.reverse; Builtin.List.listExtendWith (.ref S) (.ref it) .none) _ _ s
  refine wpAny_bind ?_
  unfold Builtin.List.listItems
  refine wpAny_bind (wpAny_seqItems hS rfl (wpAny_pure ?_))
  show wpAny _ _ (updateSeq S (fun _ => #[]) >>= fun _ => letGo (#[] : Array Value).toList.reverse >>= fun _ => Builtin.List.listExtendWith (.ref S) (.ref it) .none) _ _ s
  refine wpAny_bind (wpAny_updateSeq hS rfl ?_)
  have hS₂ := Heap.get?_update_self (Obj.mapSeq (fun _ => (#[] : Array Value))) hS rfl
  have oth : ∀ b o, b ≠ S → s.heap.get? b = some o → (s.heap.update S (Obj.mapSeq (fun _ => (#[] : Array Value)))).get? b = some o :=
    fun b o hb e => (Heap.get?_update_other _ _ (Ne.symm hb)).trans e
  refine wpAny_bind (wpAny_letGo ?_)
  have hit1 : (s.heap.update S (Obj.mapSeq (fun _ => (#[] : Array Value)))).IsRevIter it l ((items.size : Int) - 1) := hit.at fun o e => oth it o (Ne.symm hSi) e
  have hl1 : (s.heap.update S (Obj.mapSeq (fun _ => (#[] : Array Value)))).IsList l items := by
    obtain ⟨ol, hol, r⟩ := hl
    exact ⟨ol, oth l ol (Ne.symm hSl) hol, r⟩
  have hT : ({ s with heap := s.heap.update S (Obj.mapSeq (fun _ => (#[] : Array Value))) } : Shared).TypeIs (.ref it) "list_reverseiterator" := Heap.IsRevIter.typeIs (s := { s with heap := s.heap.update S (Obj.mapSeq (fun _ => (#[] : Array Value))) }) hit1
  have h1 : Builtin.List.listSameRef (.ref S) (.ref it) = false := by simp [Builtin.List.listSameRef, hSi]
  unfold Builtin.List.listExtendWith
  refine wpAny_bind (wpAny_typeOf hT ?_)
  rw [if_neg (by rw [h1]; decide)]
  refine wpAny_bind (wpAny_pyIter_revIter (s := { s with heap := s.heap.update S (Obj.mapSeq (fun _ => (#[] : Array Value))) }) hit1 ?_)
  refine wpAny_bind (wpAny_holding ?_)
  unfold Builtin.List.listLengthHint
  refine wpAny_bind (wpAny_specialOf hT nolen_lri ?_)
  show wpAny _ A.in1 (specialOf (Value.ref it) (Str.ofString "__length_hint__") >>= _) _ _ _
  refine wpAny_bind (wpAny_specialOf hT hint_lri ?_)
  generalize hid : ("list_reverseiterator.__length_hint__" : String) = id0
  wp_delta
  rw [show splitId id0 = some ("list_reverseiterator", "__length_hint__") from by subst hid; decide +kernel]
  subst hid
  refine wpAny_bind (wpAny_isInstance (b := true) hT (by rw [isSubtype_type]; kernel_rfl) ?_)
  refine wpAny_pure ?_
  rw [if_neg (by decide)]
  have e0 : ((items.size : Nat) : Int) - 1 - ((0 : Nat) : Int) = (items.size : Int) - 1 := by omega
  refine wpAny_pure ⟨plainId_quiet F.plain_extend_loop _, codeAny_extend_loopS W hn _ hSf _ items.size 0 _ _ _ rfl (Nat.zero_le _) ⟨Nat.zero_le _, by rw [e0]; exact hit1, hl1⟩ hS₂ (ItemsOf.nil _) fun s' acc' c' hm hS' hacc => ?_⟩
  rw [Moved.eq_with hm]
  refine hR s'.heap s'.toks acc' c' (fun b o hb hbi e => hm.heap b o (fun hmem => ?_) (oth b o hb e)) hS' hacc
  rcases List.mem_cons.mp hmem with e' | hmem
  · exact hb e'
  · exact hbi (List.mem_singleton.mp hmem)
theorem call_list_rev {it l : Addr} {items : Array Value} {Q : Value → Shared → Prop} (hh : A.handled = none) (hit : s.heap.IsRevIter it l ((items.size : Int) - 1)) (hl : s.heap.IsList l items) (hne : l ≠ it) (hn : items.size ≤ sizeLine)
    (hQ : ∀ h' tk acc' c', (∀ b o, b ≠ it → s.heap.get? b = some o → h'.get? b = some o) →
      h'.get? s.heap.objs.size = some { cls := .type "list", dict := none, data := .seq acc' c', slots := #[] } → ItemsOf (fun i v => items[items.size - 1 - i]? = some v) acc' items.size → Q (.ref s.heap.objs.size) { s with heap := h', toks := tk }) :
    wpAny (model prog w) A (call (.type "list") [.ref it]) Q E s := by
  refine callType_codes (Q₁ := fun obj s₁ => obj = .ref s.heap.objs.size ∧ s₁ = { s with heap := s.heap.push { cls := .type "list", data := .seq #[] } }) F.called_list (F.typeCall_list_1 _) F.entry_list_init
    (code_list_new _ ⟨rfl, rfl⟩) fun obj s₁ h₁ => ?_
  obtain ⟨rfl, rfl⟩ := h₁
  have hS : (s.heap.push { cls := .type "list", data := .seq #[] }).get? s.heap.objs.size = some { cls := .type "list", data := .seq #[] } := Heap.get?_push_size _ rfl
  obtain ⟨oi, hoi, _⟩ := id hit
  obtain ⟨ol, hol, _⟩ := id hl
  refine ⟨⟨_, hS, rfl⟩, F.args_list_init_2 _ _, list_init_rev (A := A.in1) hh (hit.at fun o e => Heap.get?_push_of_some _ e) (hl.push _) hne hn _ (Nat.ne_of_gt (Heap.lt_size hoi)) (Nat.ne_of_gt (Heap.lt_size hol)) hS fun h' tk acc' c' hk hS' hacc => ?_⟩
  exact ⟨rfl, hQ h' tk acc' c' (fun b o hb e => hk b o (Nat.ne_of_lt (Heap.lt_size e)) hb (Heap.get?_push_of_some _ e)) hS' hacc⟩
end
def tLstRev (K : PySem.W.Frag) (te : TE) : TE := fun σ H Q => te σ H fun v H1 => ∃ (a : Addr) (xs : List V), v = .ref a ∧ SqL K H1 a xs ∧ ∀ q, H1 q = none → Q (.ref q) (upd H1 q (.lst xs.reverse))
theorem pe_lstRev {X : Cx} {e : Expr} {te : TE} {p p2 pos pos2 : Pos} (hc : X.calm = true) (hg : Gl X "list") (hm : X.mg "list" = none) (hg2 : Gl X "reversed") (hm2 : X.mg "reversed" = none) (he : PE X e te)
    (hs : starEach [e] X.env = (false, eval e X.env) :: starEach [] X.env) :
    PE X (.Call (.Name "list" p) [.Call (.Name "reversed" p2) [e] [] pos2] [] pos) (tLstRev X.K te) := by
  have hs2 : starEach [.Call (.Name "reversed" p2) [e] [] pos2] X.env = (false, eval (.Call (.Name "reversed" p2) [e] [] pos2) X.env) :: starEach [] X.env := rfl
  refine ⟨fun pins s σ H Q I h => ?_⟩
  refine Call_ (ld_blt I hg hm boot_list (PyProof.Rows.callWith_type1 (args_cons (Call_ (ld_blt I hg2 hm2 PyProof.Rows.boot_reversed (PyProof.Rows.callWith_type1 (args_cons (thn (he.run pins s σ H _ I h) fun u s1 ⟨v, H1, I1, r1, q1⟩ => args_nil ?_) hs) hs rfl))) hs2) hs2 rfl))
  obtain ⟨a, xs, ev, hq, q⟩ := q1
  subst ev
  obtain rfl : u = Value.ref a := r1
  obtain ⟨its, rv, p', hz⟩ := I1.list hq
  refine call_reversed_list p'.isList (args_nil ?_)
  have k0 : ∀ b o, s1.heap.get? b = some o → (s1.heap.push (revObj a ((its.toArray.size : Int) - 1))).get? b = some o := fun b o e => Heap.get?_push_of_some _ e
  have I2 : Inv X pins σ H1 { s1 with heap := s1.heap.push (revObj a ((its.toArray.size : Int) - 1)) } := I1.kept (t' := s1.toks) k0
  have hl := p'.isList
  obtain ⟨ol, hol, _⟩ := id hl
  have hne : a ≠ s1.heap.objs.size := Nat.ne_of_lt (Heap.lt_size hol)
  have hn : its.toArray.size ≤ sizeLine := by rw [List.size_toArray, ← rv.length]; exact hz
  refine call_list_rev (s := { s1 with heap := s1.heap.push (revObj a ((its.toArray.size : Int) - 1)) }) (I1.ok.hd hc) ⟨_, Heap.get?_push_size _ rfl, rfl, rfl⟩ (hl.push _) hne hn fun h' tk acc c' hk e' hi => ?_
  have hsz : s1.heap.objs.size ≤ (s1.heap.push (revObj a ((its.toArray.size : Int) - 1))).objs.size := by rw [Heap.size_push]; exact Nat.le_succ _
  refine ⟨.ref _, upd H1 _ (.lst xs.reverse), I1.laid (a := (s1.heap.push (revObj a ((its.toArray.size : Int) - 1))).objs.size) (t' := tk) (fun b o e => hk b o (Nat.ne_of_lt (Heap.lt_size e)) (k0 b o e)) hsz (show ObjOk X.prog X.w _ _ _ (.lst xs.reverse) from ⟨by rw [List.length_reverse]; exact hz, acc.toList, c', vals_rev rv hi, ?_⟩), rfl, q _ (I1.hok.fresh hsz)⟩
  rw [Array.toArray_toList]
  exact e'
end PV
set_option Elab.async false
set_option linter.all false
set_option maxRecDepth 100000
set_option maxHeartbeats 4000000
namespace PV
open PySem PySem.Spec PyProof.Rows L2
variable [Tabs]

/-! ## arguments -/
def rL (K : PySem.W.Frag) : Rp (List Ar) (List V) := fun σ H F vs as A => match vs, as with
  | [], [] => A = []
  | v :: vs, a :: as => ∃ A1 A2, A = A1 ++ A2 ∧ rA K σ H F v a A1 ∧ rL K σ H F vs as A2
  | _, _ => False
theorem st_L {K : PySem.W.Frag} : StR (rL K) where
  ext := fun {σ H H' F F' B A v a} h x n m => by
    induction v generalizing a A with
    | nil => cases a with
      | nil => exact h
      | cons _ _ => exact h
    | cons v vs ih => cases a with
      | nil => exact h
      | cons a as =>
        obtain ⟨A1, A2, e, h1, h2⟩ := h
        exact ⟨A1, A2, e, st_A.ext h1 x (fun c hc => n c (by rw [e]; exact List.mem_append_left _ hc)) m, ih h2 fun c hc => n c (by rw [e]; exact List.mem_append_right _ hc)⟩
  there := fun {σ H F A v a} h => by
    induction v generalizing a A with
    | nil => cases a with
      | nil => intro c hc; rw [show A = [] from h] at hc; cases hc
      | cons _ _ => exact False.elim h
    | cons v vs ih => cases a with
      | nil => exact False.elim h
      | cons a as =>
        obtain ⟨A1, A2, e, h1, h2⟩ := h
        intro c hc
        rw [e] at hc
        exact (List.mem_append.mp hc).elim (st_A.there h1 c) (ih h2 c)
abbrev SA := SM (List Ar)
def sNil : SA := fun e => .ok [] e
def sCons (o : SO) (os : SA) : SA := fun e => (o e).bind fun a e1 => (os e1).bind fun as e2 => .ok (a :: as) e2
section
variable {X : Cx} {cv : Nat → Value} {W : WX}
theorem sNil_read {K : PySem.W.Frag} {σ : L2.St} {H : Hp} {Q : List V → Hp → Prop} (h : sm K cv W (rL K) sNil σ H Q) : tNil σ H Q := by
  obtain ⟨F, env, B, w, f⟩ := h
  exact f [] H F [] B Ext.refl w rfl w.dis Sub.refl
theorem sCons_read {K : PySem.W.Frag} {o : SO} {os : SA} {σ : L2.St} {H : Hp} {Q : List V → Hp → Prop} (h : sm K cv W (rL K) (sCons o os) σ H Q) : tCons (sm K cv W (rA K) o) (sm K cv W (rL K) os) σ H Q := by
  refine (sm.run0 (P := rA K) (m := o) h).mono fun v H1 ⟨F2, env2, a, A2, B2, w2, p2, d2, f2⟩ => ?_
  refine (sm.run (P := rL K) (st_A.h σ v a) w2 p2 d2 f2).mono fun vs H4 ⟨F5, env5, as, A5, B5, w5, pa, pb, d5, f5⟩ => ?_
  exact f5 (v :: vs) H4 F5 (A2 ++ A5) B5 Ext.refl w5 ⟨A2, A5, rfl, pa, pb⟩ (by rw [List.append_assoc]; exact d5) (by rw [List.append_assoc]; exact Sub.refl)
theorem pa_nil' : PA X [] (sm X.K cv W (rL X.K) sNil) := pa_nil.imp fun σ H Q => sNil_read
def notStar : Expr → Bool
  | .Starred _ _ => false
  | _ => true
theorem star_cons {e : Expr} {es : List Expr} {env : PySem.Env} (h : notStar e = true) : starEach (e :: es) env = (false, eval e env) :: starEach es env := by
  cases e <;> first | rfl | cases h
theorem star_plain {pos : Pos} {env : PySem.Env} : ∀ {es : List Expr}, es.all notStar = true → (backTo pos (starEach es env)).any (·.1) = false
  | [], _ => rfl
  | e :: es, h => by
    simp only [List.all_cons, Bool.and_eq_true] at h
    rw [star_cons h.1]
    show (false || (backTo pos (starEach es env)).any (·.1)) = false
    rw [star_plain h.2]
    rfl
theorem pa_cons' {e : Expr} {es : List Expr} {o : SO} {os : SA} (hs : notStar e = true) (ha : PE X e (sm X.K cv W (rA X.K) o)) (hr : PA X es (sm X.K cv W (rL X.K) os)) : PA X (e :: es) (sm X.K cv W (rL X.K) (sCons o os)) :=
  (pa_cons ha hr (star_cons hs)).imp fun σ H Q => sCons_read

/-! ## the values of arguments -/
def rsvs (e : Env) : List Ar → Option (List D)
  | [] => some []
  | a :: as => match rsv e a, rsvs e as with
    | some d, some ds => some (d :: ds)
    | _, _ => none
def OwBs (K : PySem.W.Frag) (H : Hp) (F : Addr → Prop) (B : List Addr) : List V → List D → Prop
  | [], [] => True
  | v :: vs, d :: ds => OwB K H F B v d ∧ OwBs K H F B vs ds
  | _, _ => False
theorem rsvs_ok {K : PySem.W.Frag} {σ : L2.St} {H : Hp} {F F' : Addr → Prop} {env : Env} {B : List Addr} (w : Wl K σ H F' env B) (m : ∀ c, F c → F' c) : ∀ {vs : List V} {as : List Ar} {A : List Addr} {ds : List D}, (∀ c ∈ A, F' c) → rL K σ H F vs as A → rsvs env as = some ds → OwBs K H F' B vs ds
  | [], [], A, ds, _, _, e => by cases e; trivial
  | [], _ :: _, A, ds, _, p, _ => False.elim p
  | _ :: _, [], A, ds, _, p, _ => False.elim p
  | v :: vs, a :: as, A, ds, ha, ⟨A1, A2, e1, p1, p2⟩, e => by
    subst e1
    simp only [rsvs] at e
    split at e
    · rename_i d ds' q1 q2
      cases e
      exact ⟨rsv_ok w m (fun c hc => ha c (List.mem_append_left _ hc)) p1 q1, rsvs_ok w m (fun c hc => ha c (List.mem_append_right _ hc)) p2 q2⟩
    · cases e
def sApp (os : SA) (f : List D → Option D) : SE := fun e => (os e).bind fun as e1 => match rsvs e1 as with
  | some ds => (match f ds with
    | some r => .ok r e1
    | none => .bad)
  | none => .bad
def RuleL (K : PySem.W.Frag) (f : List D → Option D) (r : List V → Hp → VK → Prop) : Prop :=
  ∀ {cv : Nat → Value} {W : WX} {σ : L2.St} {H : Hp} {F : Addr → Prop} {A B : List Addr} {env : Env} {xs : List V} {ds : List D} {d : D} {Q : VK}, Wl K σ H F env B → Dis F (A ++ B) → (∀ a ∈ A, H a ≠ none) →
    OwBs K H (fun a => F a ∨ a ∈ A) B xs ds → f ds = some d → Fin K cv W (rD K) σ H F (A ++ B) Q (.ok d env) → r xs H Q
theorem sApp_read {K : PySem.W.Frag} {os : SA} {f : List D → Option D} {r : List V → Hp → VK → Prop} (hr : RuleL K f r) {σ : L2.St} {H : Hp} {Q : VK} (h : sm K cv W (rD K) (sApp os f) σ H Q) : tCB r (sm K cv W (rL K) os) σ H Q := by
  refine (sm.run0 (P := rL K) (m := os) h).mono fun v H1 ⟨F2, env2, a, A2, B2, w2, p2, d2, f2⟩ => ?_
  split at f2
  · rename_i ds q1
    split at f2
    · rename_i d q3
      have t : ∀ c ∈ A2, H1 c ≠ none := st_L.there p2
      exact hr w2 d2 t (rsvs_ok (w2.freeze d2 t) (fun c h => .inl h) (fun c h => .inr h) p2 q1) q3 f2
    · exact False.elim f2
  · exact False.elim f2
variable {x : Str} {p pos : Pos} {e : Expr} {es : List Expr} {os : SA} {id T : String} {r : List V → Hp → VK → Prop} {f : List D → Option D}
theorem px_blt (hc : CallR X (.builtin id) r) (hr : RuleL X.K f r) (hg : Gl X x) (hm : X.mg x = none) (hv : bootBuiltins x = some (.builtin id)) (hn : x ≠ "__name__") (hdb : (x == ("__debug__" : Str)) = false) (hs : (e :: es).all notStar = true)
    (ha : PA X (e :: es) (sm X.K cv W (rL X.K) os)) : PE X (.Call (.Name x p) (e :: es) [] pos) (sm X.K cv W (rD X.K) (sApp os f)) := by
  simp only [List.all_cons, Bool.and_eq_true] at hs
  exact (pe_callB hc hg hm hv ha hn hdb (star_cons hs.1) (star_plain hs.2)).imp fun σ H Q => sApp_read hr
theorem px_bty (hc : CallR X (.type T) r) (hr : RuleL X.K f r) (hg : Gl X x) (hm : X.mg x = none) (hv : bootBuiltins x = some (.type T)) (hn : x ≠ "__name__") (hdb : (x == ("__debug__" : Str)) = false) (hs : (e :: es).all notStar = true)
    (ha : PA X (e :: es) (sm X.K cv W (rL X.K) os)) : PE X (.Call (.Name x p) (e :: es) [] pos) (sm X.K cv W (rD X.K) (sApp os f)) := by
  simp only [List.all_cons, Bool.and_eq_true] at hs
  exact (pe_callTy hc hg hm hv ha hn hdb (star_cons hs.1) (star_plain hs.2)).imp fun σ H Q => sApp_read hr
theorem px_bfun (hc : CallR X (.builtin id) r) (hr : RuleL X.K f r) (hg : Gl X x) (hm : X.mg x = some (.builtin id)) (hdb : (x == ("__debug__" : Str)) = false) (hs : (e :: es).all notStar = true)
    (ha : PA X (e :: es) (sm X.K cv W (rL X.K) os)) : PE X (.Call (.Name x p) (e :: es) [] pos) (sm X.K cv W (rD X.K) (sApp os f)) := by
  simp only [List.all_cons, Bool.and_eq_true] at hs
  exact (pe_callBfun hc hg hm ha hdb (star_cons hs.1) (star_plain hs.2)).imp fun σ H Q => sApp_read hr
end

/-! ## built-in functions by values -/
section
variable {K : PySem.W.Frag}
theorem one_of {H : Hp} {F : Addr → Prop} {B : List Addr} {xs : List V} {d : D} (h : OwBs K H F B xs [d]) : ∃ x, xs = [x] ∧ OwB K H F B x d := by
  match xs, h with
  | [x], h => exact ⟨x, rfl, h.1⟩
  | _ :: _ :: _, h => exact False.elim h.2
theorem two_of {H : Hp} {F : Addr → Prop} {B : List Addr} {xs : List V} {d d' : D} (h : OwBs K H F B xs [d, d']) : ∃ x y, xs = [x, y] ∧ OwB K H F B x d ∧ OwB K H F B y d' := by
  match xs, h with
  | [x, y], h => exact ⟨x, y, rfl, h.1, h.2.1⟩
  | [_], h => exact False.elim h.2
  | _ :: _ :: _ :: _, h => exact False.elim h.2.2
def fLen : List D → Option D
  | [.tup l] => some (.int l.length)
  | [.lst _ l] => some (.int l.length)
  | [.scr l] => some (.int l.length)
  | [.str z] => if decide (z.length ≤ sizeLine) then some (.int z.length) else none
  | _ => none
theorem rule_len : RuleL K fLen (fun xs H Q => ∃ x n, xs = [x] ∧ LenV K x H n ∧ Q (.int n) H) := by
  intro cv W σ H F A B env xs ds d Q w dd t o e fin
  match ds, e with
  | [.tup l], e =>
    obtain ⟨x, rfl, ox⟩ := one_of o
    obtain ⟨a, xs, rfl, q, r⟩ := ox.tup
    cases e
    exact ⟨_, l.length, rfl, .inr ⟨xs, q, r.length.symm⟩, fin_val w dd t fin fz_int⟩
  | [.lst b l], e =>
    obtain ⟨x, rfl, ox⟩ := one_of o
    obtain ⟨a, xs, rfl, q, r, _⟩ := ox.lst
    cases e
    exact ⟨_, l.length, rfl, .inl ⟨xs, .inl (.inl q), r.symm⟩, fin_val w dd t fin fz_int⟩
  | [.scr l], e =>
    obtain ⟨x, rfl, ox⟩ := one_of o
    obtain ⟨a, xs, rfl, q, r⟩ := ox.scr
    cases e
    exact ⟨_, l.length, rfl, .inl ⟨xs, q, r.length.symm⟩, fin_val w dd t fin fz_int⟩
  | [.str z], e =>
    obtain ⟨x, rfl, ox⟩ := one_of o
    rw [ox.str]
    simp only [fLen] at e
    split at e
    · rename_i hc
      cases e
      exact ⟨_, z.length, rfl, ⟨of_decide_eq_true hc, rfl⟩, fin_val w dd t fin fz_int⟩
    · cases e
def fI1 (g : Int → D) : List D → Option D
  | [.int i] => some (g i)
  | _ => none
theorem rule_abs : RuleL K (fI1 fun i => .int (if i < 0 then -i else i)) (fun xs H Q => ∃ i, xs = [.int i] ∧ Q (.int (if i < 0 then -i else i)) H) := by
  intro cv W σ H F A B env xs ds d Q w dd t o e fin
  match ds, e with
  | [.int i], e =>
    obtain ⟨x, rfl, ox⟩ := one_of o
    cases e
    exact ⟨i, by rw [ox.int], fin_val w dd t fin fz_int⟩
def fInt : List D → Option D
  | [.int i] => some (.int i)
  | [.bl b] => some (.int (if b then 1 else 0))
  | _ => none
theorem rule_int : RuleL K fInt (fun xs H Q => (∃ i, xs = [.int i] ∧ Q (.int i) H) ∨ ∃ k, xs = [.bl k] ∧ Q (.int (if k then 1 else 0)) H) := by
  intro cv W σ H F A B env xs ds d Q w dd t o e fin
  match ds, e with
  | [.int i], e =>
    obtain ⟨x, rfl, ox⟩ := one_of o
    cases e
    exact .inl ⟨i, by rw [ox.int], fin_val w dd t fin fz_int⟩
  | [.bl i], e =>
    obtain ⟨x, rfl, ox⟩ := one_of o
    cases e
    exact .inr ⟨i, by rw [ox.bl], fin_val w dd t fin fz_int⟩
def fTup : List D → Option D
  | [.tup l] => some (.tup l)
  | [.lst _ l] => if isFzs l then some (.tup l) else none
  | _ => none
theorem rule_tup : RuleL K fTup (fun xs H Q => ∃ p ys, xs = [.ref p] ∧ ((SqL K H p ys ∧ ∀ l, H l = none → Q (.ref l) (upd H l (.tup ys))) ∨ (SqT K H p ys ∧ Q (.ref p) H))) := by
  intro cv W σ H F A B env xs ds d Q w dd t o e fin
  match ds, e with
  | [.tup l], e =>
    obtain ⟨x, rfl, ox⟩ := one_of o
    obtain ⟨a, xs, rfl, q, r⟩ := ox.tup
    cases e
    exact ⟨a, xs, rfl, .inr ⟨q, fin_val w dd t fin (by simp only [Fz]; exact ⟨a, xs, rfl, q, r⟩)⟩⟩
  | [.lst b l], e =>
    obtain ⟨x, rfl, ox⟩ := one_of o
    obtain ⟨a, xs, rfl, q, _, r⟩ := ox.lst
    simp only [fTup] at e
    split at e
    · rename_i hc
      cases e
      exact ⟨a, xs, rfl, .inl ⟨.inl (.inl q), fun p hp => Fin.newT hp w dd t fin (r hc)⟩⟩
    · cases e
def fLst : List D → Option D
  | [.tup l] => some (.lst true l)
  | [.scr l] => some (.lst true l)
  | [.lst _ l] => if isFzs l then some (.lst true l) else none
  | _ => none
theorem rule_lst : RuleL K fLst (fun xs H Q => ∃ p ys, xs = [.ref p] ∧ (SqL K H p ys ∨ SqT K H p ys) ∧ ∀ l, H l = none → Q (.ref l) (upd H l (.lst ys))) := by
  intro cv W σ H F A B env xs ds d Q w dd t o e fin
  match ds, e with
  | [.tup l], e =>
    obtain ⟨x, rfl, ox⟩ := one_of o
    obtain ⟨a, xs, rfl, q, r⟩ := ox.tup
    cases e
    exact ⟨a, xs, rfl, .inr q, fun p hp => Fin.newL hp w dd t fin r⟩
  | [.scr l], e =>
    obtain ⟨x, rfl, ox⟩ := one_of o
    obtain ⟨a, xs, rfl, q, r⟩ := ox.scr
    cases e
    exact ⟨a, xs, rfl, .inl q, fun p hp => Fin.newL hp w dd t fin r⟩
  | [.lst b l], e =>
    obtain ⟨x, rfl, ox⟩ := one_of o
    obtain ⟨a, xs, rfl, q, _, r⟩ := ox.lst
    simp only [fLst] at e
    split at e
    · rename_i hc
      cases e
      exact ⟨a, xs, rfl, .inl (.inl (.inl q)), fun p hp => Fin.newL hp w dd t fin (r hc)⟩
    · cases e
/-- a row of ints, as a list -/
def lstInts : D → Option (List Int)
  | .lst _ l => if isFzs l then intsOf l else none
  | _ => none
theorem lstInts_ok {H : Hp} {F : Addr → Prop} {B : List Addr} {x : V} {d : D} {ns : List Int} (o : OwB K H F B x d) (e : lstInts d = some ns) : ∃ a, x = .ref a ∧ SqL K H a (ns.map V.int) := by
  cases d <;> try (simp [lstInts] at e; done)
  simp only [lstInts] at e
  split at e
  · rename_i hc
    obtain ⟨a, xs, rfl, q, _, r⟩ := o.lst
    have r' := r hc
    rw [ints_map e] at r'
    rw [r'.toInts] at q
    exact ⟨a, rfl, .inl (.inl q)⟩
  · cases e
def fSum : List D → Option D
  | [d] => (lstInts d).map fun ns => .int ns.sum
  | _ => none
theorem rule_sum : RuleL K fSum (rSum K) := by
  intro cv W σ H F A B env xs ds d Q w dd t o e fin
  match ds, e with
  | [d0], e =>
    obtain ⟨x, rfl, ox⟩ := one_of o
    simp only [fSum, Option.map_eq_some_iff] at e
    obtain ⟨ns, h1, rfl⟩ := e
    obtain ⟨a, rfl, h2⟩ := lstInts_ok ox h1
    exact ⟨a, ns, rfl, h2, fin_val w dd t fin fz_int⟩
/-- the greatest, the least -/
def maxI : Int → List Int → Int
  | m, [] => m
  | m, n :: ns => maxI (max m n) ns
def minI : Int → List Int → Int
  | m, [] => m
  | m, n :: ns => minI (min m n) ns
theorem maxI_spec : ∀ (ns : List Int) (m : Int), m ≤ maxI m ns ∧ (∀ y, y ∈ ns → y ≤ maxI m ns) ∧ (maxI m ns = m ∨ maxI m ns ∈ ns)
  | [], m => by simp [maxI]
  | n :: ns, m => by
    obtain ⟨h1, h2, h3⟩ := maxI_spec ns (max m n)
    have e : maxI m (n :: ns) = maxI (max m n) ns := rfl
    rw [e]
    refine ⟨by omega, fun y hy => ?_, ?_⟩
    · rcases List.mem_cons.mp hy with rfl | hy
      · omega
      · exact h2 y hy
    · rcases h3 with h3 | h3
      · by_cases q : m ≤ n
        · exact .inr (by rw [h3, show max m n = n by omega]; exact List.mem_cons_self)
        · exact .inl (by omega)
      · exact .inr (List.mem_cons_of_mem _ h3)
theorem minI_spec : ∀ (ns : List Int) (m : Int), minI m ns ≤ m ∧ (∀ y, y ∈ ns → minI m ns ≤ y) ∧ (minI m ns = m ∨ minI m ns ∈ ns)
  | [], m => by simp [minI]
  | n :: ns, m => by
    obtain ⟨h1, h2, h3⟩ := minI_spec ns (min m n)
    have e : minI m (n :: ns) = minI (min m n) ns := rfl
    rw [e]
    refine ⟨by omega, fun y hy => ?_, ?_⟩
    · rcases List.mem_cons.mp hy with rfl | hy
      · omega
      · exact h2 y hy
    · rcases h3 with h3 | h3
      · by_cases q : n ≤ m
        · exact .inr (by rw [h3, show min m n = n by omega]; exact List.mem_cons_self)
        · exact .inl (by omega)
      · exact .inr (List.mem_cons_of_mem _ h3)
def fMax : List D → Option D
  | [d] => (match lstInts d with
    | some (n :: ns) => some (.int (maxI n ns))
    | _ => none)
  | _ => none
def fMin : List D → Option D
  | [d] => (match lstInts d with
    | some (n :: ns) => some (.int (minI n ns))
    | _ => none)
  | _ => none
theorem rule_max : RuleL K fMax (rMax K) := by
  intro cv W σ H F A B env xs ds d Q w dd t o e fin
  match ds, e with
  | [d0], e =>
    obtain ⟨x, rfl, ox⟩ := one_of o
    simp only [fMax] at e
    split at e
    · rename_i n ns h1
      cases e
      obtain ⟨a, rfl, h2⟩ := lstInts_ok ox h1
      refine ⟨a, n :: ns, rfl, h2, by simp, fun m h3 h4 => ?_⟩
      obtain ⟨g1, g2, g3⟩ := maxI_spec ns n
      have e1 : m = maxI n ns := by
        have e2 : m ≤ maxI n ns := by
          rcases List.mem_cons.mp h3 with rfl | h3
          · exact g1
          · exact g2 m h3
        have e3 : maxI n ns ≤ m := by
          rcases g3 with g3 | g3
          · rw [g3]; exact h4 n List.mem_cons_self
          · exact h4 _ (List.mem_cons_of_mem _ g3)
        omega
      rw [e1]
      exact fin_val w dd t fin fz_int
    · cases e
theorem rule_min : RuleL K fMin (rMin K) := by
  intro cv W σ H F A B env xs ds d Q w dd t o e fin
  match ds, e with
  | [d0], e =>
    obtain ⟨x, rfl, ox⟩ := one_of o
    simp only [fMin] at e
    split at e
    · rename_i n ns h1
      cases e
      obtain ⟨a, rfl, h2⟩ := lstInts_ok ox h1
      refine ⟨a, n :: ns, rfl, h2, by simp, fun m h3 h4 => ?_⟩
      obtain ⟨g1, g2, g3⟩ := minI_spec ns n
      have e1 : m = minI n ns := by
        have e2 : minI n ns ≤ m := by
          rcases List.mem_cons.mp h3 with rfl | h3
          · exact g1
          · exact g2 m h3
        have e3 : m ≤ minI n ns := by
          rcases g3 with g3 | g3
          · rw [g3]; exact h4 n List.mem_cons_self
          · exact h4 _ (List.mem_cons_of_mem _ g3)
        omega
      rw [e1]
      exact fin_val w dd t fin fz_int
    · cases e
def fI2 (g : Int → Int → D) : List D → Option D
  | [.int i, .int j] => some (g i j)
  | _ => none
theorem rule_max2 : RuleL K (fI2 fun i j => .int (if j > i then j else i)) (fun xs H Q => ∃ i j, xs = [.int i, .int j] ∧ Q (.int (if j > i then j else i)) H) := by
  intro cv W σ H F A B env xs ds d Q w dd t o e fin
  match ds, e with
  | [.int i, .int j], e =>
    obtain ⟨x, y, rfl, ox, oy⟩ := two_of o
    cases e
    exact ⟨i, j, by rw [ox.int, oy.int], fin_val w dd t fin fz_int⟩
theorem rule_min2 : RuleL K (fI2 fun i j => .int (if j < i then j else i)) (fun xs H Q => ∃ i j, xs = [.int i, .int j] ∧ Q (.int (if j < i then j else i)) H) := by
  intro cv W σ H F A B env xs ds d Q w dd t o e fin
  match ds, e with
  | [.int i, .int j], e =>
    obtain ⟨x, y, rfl, ox, oy⟩ := two_of o
    cases e
    exact ⟨i, j, by rw [ox.int, oy.int], fin_val w dd t fin fz_int⟩
theorem rule_gcd : RuleL K (fI2 fun i j => .int ((Nat.gcd i.natAbs j.natAbs : Nat) : Int)) rGcd := by
  intro cv W σ H F A B env xs ds d Q w dd t o e fin
  match ds, e with
  | [.int i, .int j], e =>
    obtain ⟨x, y, rfl, ox, oy⟩ := two_of o
    cases e
    exact ⟨i, j, by rw [ox.int, oy.int], fin_val w dd t fin fz_int⟩
theorem RuleL.or {f g : List D → Option D} {r r' : List V → Hp → VK → Prop} (h : RuleL K f r) (h' : RuleL K g r') : RuleL K (fun x => (f x).orElse fun _ => g x) (fun x H Q => r x H Q ∨ r' x H Q) := by
  intro cv W σ H F A B env xs ds d Q w dd t ox e fin
  dsimp only at e
  cases q : f ds with
  | none => rw [q] at e; exact .inr (h' w dd t ox e fin)
  | some z => rw [q] at e; cases e; exact .inl (h w dd t ox q fin)
end

/-! ## isinstance(e, T), T a built-in type -/
/-- the answer, by the names of the types -/
def isiTy (a b : String) : Bool := a == b || (a == "bool" && b == "int")
def sIsi (o : SO) (T : String) : SE := fun e => (o e).bind fun a e1 => match rsv e1 a with
  | some d => (match d.ty with
    | some t => .ok (.bl (isiTy t T)) e1
    | none => .bad)
  | none => .bad
def okTy (T : String) : Bool := T == "int" || T == "bool" || T == "str" || T == "tuple" || T == "list"
theorem kit_isi {K : PySem.W.Frag} {d : D} {t T : String} (h : okTy T = true) (z : d.ty = some t) : PySem.W.kitOne K (.type t) (.type T) = some (isiTy t T) := by
  simp only [okTy, Bool.or_eq_true, beq_iff_eq] at h
  rcases h with (((rfl | rfl) | rfl) | rfl) | rfl <;> cases d <;> first | (cases z; exact kit_ty (by decide +kernel)) | (cases z; done)
theorem px_isi {X : Cx} {cv : Nat → Value} {W : WX} {x y : Str} {T : String} {p p2 pos : Pos} {e : Expr} {o : SO} (hT : okTy T = true) (hg : Gl X x) (hm : X.mg x = none) (hv : bootBuiltins x = some (.builtin "isinstance")) (hn : x ≠ "__name__") (hdb : (x == ("__debug__" : Str)) = false)
    (hg2 : Gl X y) (hm2 : X.mg y = none) (hv2 : bootBuiltins y = some (.type T)) (hn2 : y ≠ "__name__") (hdb2 : (y == ("__debug__" : Str)) = false) (hs : notStar e = true) (he : PE X e (sm X.K cv W (rA X.K) o)) :
    PE X (.Call (.Name x p) [e, .Name y p2] [] pos) (sm X.K cv W (rD X.K) (sIsi o T)) := by
  refine (pe_callB call_isi hg hm hv (pa_cons he (pa_cons (pe_bltn (v := .ty T) hg2 hm2 hv2 rfl hn2 hdb2) pa_nil) (star_cons hs)) hn hdb (star_cons hs) rfl).imp fun σ H Q h => ?_
  refine (sm.run0 (P := rA X.K) (m := o) h).mono fun v H1 ⟨F2, env2, a, A2, B2, w2, p2, d2, f2⟩ => ?_
  split at f2
  · rename_i d q
    have t : ∀ c ∈ A2, H1 c ≠ none := st_A.there p2
    have ob := rsv_ok (w2.freeze d2 t) (fun c h => .inl h) (fun c h => .inr h) p2 q
    split at f2
    · rename_i t' hz
      exact ⟨v, .ty T, _, _, _, rfl, .ty T, ob.ty hz, kit_isi hT hz, fin_val w2 d2 t f2 fz_bl⟩
    · exact False.elim f2
  · exact False.elim f2
end PV
set_option Elab.async false
set_option linter.all false
set_option maxRecDepth 100000
set_option maxHeartbeats 4000000
namespace PySem
section
variable {prog : Program} {w : World} {A : Around} {E : Value → Shared → Prop} {s : Shared} {l : Addr} {xs : Array (Int × Tok)}
theorem iter_intTup {Q : Value → Shared → Prop} (hl : s.heap.IsTuple l (intItems xs))
    (h : ∀ s₂ : Shared, s₂ = { s with heap := s.heap.push { cls := .type "tuple_iterator", data := .fields #[.ref l, .int 0 0] } } →
      (s₂.heap.IsTupleIter s.heap.objs.size l 0 ∧ s₂.heap.IsTuple l (intItems xs)) → (∀ b ∈ [s.heap.objs.size, l], b < s₂.heap.objs.size) → l ≠ s.heap.objs.size → Q (.ref s.heap.objs.size) s₂) :
    wpAny (model prog w) A (pyIter (.ref l)) Q E s := by
  have hlt : l < s.heap.objs.size := by obtain ⟨_, e, _⟩ := hl; exact Heap.lt_size e
  refine wpAny_pyIter_tuple hl (h _ rfl ⟨⟨_, Heap.get?_push_size _ rfl, rfl, rfl⟩, hl.push _⟩ (fun b hb => ?_) (Nat.ne_of_lt hlt))
  show b < (s.heap.push _).objs.size
  rw [Heap.size_push]
  rcases List.mem_cons.mp hb with rfl | hb
  · exact Nat.lt_succ_self _
  · rcases List.mem_cons.mp hb with rfl | hb
    · exact Nat.lt_succ_of_lt hlt
    · cases hb
theorem oldT_kept {h' : Heap} (hk : ∀ b o, b ∉ [s.heap.objs.size] → (s.heap.push { cls := .type "tuple_iterator", data := .fields #[.ref l, .int 0 0] }).get? b = some o → h'.get? b = some o) :
    ∀ b o, s.heap.get? b = some o → h'.get? b = some o := fun b o e => by
  refine hk b o (fun hm => ?_) (Heap.get?_push_of_some _ e)
  rcases List.mem_cons.mp hm with e1 | hm
  · exact absurd (e1 ▸ Heap.lt_size e) (Nat.lt_irrefl _)
  · cases hm
theorem max_intTup {Q : Value → Shared → Prop} (hh : A.handled = none) (hl : s.heap.IsTuple l (intItems xs)) (hne : 0 < xs.size)
    (h : ∀ v h' tk, (intItems xs)[argBest (fun i j => decide (numAt xs i > numAt xs j)) (xs.size - 1)]? = some v → (∀ b o, s.heap.get? b = some o → h'.get? b = some o) → Q v { s with heap := h', toks := tk }) :
    wpAny (model prog w) A (call (.builtin "max") [.ref l]) Q E s := by
  refine call_max_walk (iter_intTup hl fun s₂ e st hfp hlI => ?_)
  subst e
  refine ⟨_, _, _, _, _, _, _, rfl, Walks.tuple (A := A.in1) hh _ l hlI (intItems xs), st, hfp, by simpa [intItems] using hne, CmpOf.ints_gt (numAt xs) (fun _ _ => intItems_at), fun v h' tk hP hk => ?_⟩
  exact h v h' tk (by simpa [intItems] using hP) (oldT_kept hk)
theorem min_intTup {Q : Value → Shared → Prop} (hh : A.handled = none) (hl : s.heap.IsTuple l (intItems xs)) (hne : 0 < xs.size)
    (h : ∀ v h' tk, (intItems xs)[argBest (fun i j => decide (numAt xs i < numAt xs j)) (xs.size - 1)]? = some v → (∀ b o, s.heap.get? b = some o → h'.get? b = some o) → Q v { s with heap := h', toks := tk }) :
    wpAny (model prog w) A (call (.builtin "min") [.ref l]) Q E s := by
  refine call_min_walk (iter_intTup hl fun s₂ e st hfp hlI => ?_)
  subst e
  refine ⟨_, _, _, _, _, _, _, rfl, Walks.tuple (A := A.in1) hh _ l hlI (intItems xs), st, hfp, by simpa [intItems] using hne, CmpOf.ints_lt (numAt xs) (fun _ _ => intItems_at), fun v h' tk hP hk => ?_⟩
  exact h v h' tk (by simpa [intItems] using hP) (oldT_kept hk)
theorem sum_intTupG {Q : Value → Shared → Prop} (hh : A.handled = none) (hl : s.heap.IsTuple l (intItems xs))
    (h : ∀ h' tk t', (∀ b o, s.heap.get? b = some o → h'.get? b = some o) → Q (.int (preSum (numAt xs) xs.size) t') { s with heap := h', toks := tk }) :
    wpAny (model prog w) A (call (.builtin "sum") [.ref l]) Q E s := by
  refine call_sum_walkG (iter_intTup hl fun s₂ e st hfp hlI => ?_)
  subst e
  refine ⟨_, _, _, _, _, _, numAt xs, rfl, Walks.tuple (A := A.in1) hh _ l hlI (intItems xs), st, hfp, (fun _ _ => intItems_at), fun h' tk t' hk => ?_⟩
  have := h h' tk t' (oldT_kept hk)
  simpa [intItems] using this
end
end PySem
namespace PV
open PySem PySem.Spec PyProof.Rows L2
section
variable {X : Cx}
theorem raw_ints {us : List Value} {ns : List Int} (hi : IntsAre us ns) : ∃ xs, us.toArray = intItems xs ∧ xs.toList.map (·.1) = ns := by
  obtain ⟨xs, e⟩ := hi.allInts.items
  have hn : numsOf (intItems xs).toList = ns := by rw [← e]; exact hi.numsOf
  rw [nums_intItems] at hn
  exact ⟨xs, e, hn⟩
def rSumT (K : PySem.W.Frag) : List V → Hp → VK → Prop := fun vs H Q => ∃ (a : Addr) (ns : List Int), vs = [V.ref a] ∧ SqT K H a (ns.map V.int) ∧ Q (.int ns.sum) H
def rMaxT (K : PySem.W.Frag) : List V → Hp → VK → Prop := fun vs H Q => ∃ (a : Addr) (ns : List Int), vs = [V.ref a] ∧ SqT K H a (ns.map V.int) ∧ 0 < ns.length ∧ ∀ m, m ∈ ns → (∀ y, y ∈ ns → y ≤ m) → Q (.int m) H
def rMinT (K : PySem.W.Frag) : List V → Hp → VK → Prop := fun vs H Q => ∃ (a : Addr) (ns : List Int), vs = [V.ref a] ∧ SqT K H a (ns.map V.int) ∧ 0 < ns.length ∧ ∀ m, m ∈ ns → (∀ y, y ∈ ns → m ≤ y) → Q (.int m) H
theorem cr_sumT (hc : X.calm = true) : CallR X (.builtin "sum") (rSumT X.K) := by
  intro pins s σ H vs us Q I r h
  obtain ⟨a, ns, rfl, hs, q⟩ := h
  obtain ⟨its, rv, hl, _⟩ := I.tuple hs
  rw [Vals.ref1 r]
  obtain ⟨xs, e, rfl⟩ := raw_ints rv.ints
  refine sum_intTupG (I.ok.hd hc) (e ▸ (show s.heap.IsTuple a its.toArray from hl)) fun h' tk t' hk => ⟨.int _, H, I.kept hk, ⟨_, rfl⟩, ?_⟩
  rw [preSum_eq, List.take_of_length_le (by simp)]; exact q
theorem cr_maxT (hc : X.calm = true) : CallR X (.builtin "max") (rMaxT X.K) := by
  intro pins s σ H vs us Q I r h
  obtain ⟨a, ns, rfl, hs, hne, q⟩ := h
  obtain ⟨its, rv, hl, _⟩ := I.tuple hs
  rw [Vals.ref1 r]
  obtain ⟨xs, e, rfl⟩ := raw_ints rv.ints
  have hsz : 0 < xs.size := by simpa using hne
  refine max_intTup (I.ok.hd hc) (e ▸ (show s.heap.IsTuple a its.toArray from hl)) hsz fun v h' tk hv hk => ?_
  obtain ⟨t, rfl⟩ := intItems_at hv
  obtain ⟨h1, h2⟩ := argBest_gt (numAt xs) (xs.size - 1)
  refine ⟨.int _, H, I.kept hk, ⟨_, rfl⟩, q _ ?_ fun a ha => ?_⟩
  · rw [numAt_eq]; exact PySem.getD_mem (by rw [List.length_map, Array.length_toList]; omega)
  · obtain ⟨j, hj, rfl⟩ := mem_getD ha
    rw [List.length_map, Array.length_toList] at hj
    rw [← numAt_eq]; exact h2 j (by omega)
theorem cr_minT (hc : X.calm = true) : CallR X (.builtin "min") (rMinT X.K) := by
  intro pins s σ H vs us Q I r h
  obtain ⟨a, ns, rfl, hs, hne, q⟩ := h
  obtain ⟨its, rv, hl, _⟩ := I.tuple hs
  rw [Vals.ref1 r]
  obtain ⟨xs, e, rfl⟩ := raw_ints rv.ints
  have hsz : 0 < xs.size := by simpa using hne
  refine min_intTup (I.ok.hd hc) (e ▸ (show s.heap.IsTuple a its.toArray from hl)) hsz fun v h' tk hv hk => ?_
  obtain ⟨t, rfl⟩ := intItems_at hv
  obtain ⟨h1, h2⟩ := argBest_lt (numAt xs) (xs.size - 1)
  refine ⟨.int _, H, I.kept hk, ⟨_, rfl⟩, q _ ?_ fun a ha => ?_⟩
  · rw [numAt_eq]; exact PySem.getD_mem (by rw [List.length_map, Array.length_toList]; omega)
  · obtain ⟨j, hj, rfl⟩ := mem_getD ha
    rw [List.length_map, Array.length_toList] at hj
    rw [← numAt_eq]; exact h2 j (by omega)
end
end PV
set_option Elab.async false
set_option linter.all false
set_option maxRecDepth 100000
set_option maxHeartbeats 4000000
namespace PV
open PySem PySem.Spec PyProof.Rows L2
variable [Tabs]

/-! ## looks: what is read where it stands, nothing changes -/
abbrev QE := Env → Option D
abbrev QL := Env → Option (List D)
def qr (K : PySem.W.Frag) (q : QE) : TE := fun σ H Q => ∃ F env B d, Wl K σ H F env B ∧ q env = some d ∧ ∀ v, OwB K H F B v d → Q v H
def qrL (K : PySem.W.Frag) (q : QL) : TA := fun σ H Q => ∃ F env B d, Wl K σ H F env B ∧ q env = some d ∧ ∀ v, OwBs K H F B v d → Q v H
theorem Fz.owB {K : PySem.W.Frag} {H : Hp} {F : Addr → Prop} {B : List Addr} {v : V} {d : D} (h : Fz K H F v d) : OwB K H F B v d := ⟨[], h.ow, fun _ z => by cases z⟩
def qVar (i : Nat) : QE := fun e => match e[i]? with
  | some (some d) => some d
  | _ => none
def qC (d : D) : QE := fun _ => some d
def qTwo (a b : QE) (f : D → D → Option D) : QE := fun e => match a e, b e with
  | some x, some y => f x y
  | _, _ => none
def qNil : QL := fun _ => some []
def qCons (a : QE) (b : QL) : QL := fun e => match a e, b e with
  | some x, some y => some (x :: y)
  | _, _ => none
def qApp (a : QL) (f : List D → Option D) : QE := fun e => match a e with
  | some x => f x
  | _ => none
def RuleQ (K : PySem.W.Frag) (f : D → D → Option D) (r : R2) : Prop :=
  ∀ {H : Hp} {F : Addr → Prop} {B : List Addr} {x y : V} {dx dy d : D} {Q : VK}, OwB K H F B x dx → OwB K H F B y dy → f dx dy = some d → (∀ v, OwB K H F B v d → Q v H) → r x y H Q
def RuleQL (K : PySem.W.Frag) (f : List D → Option D) (r : List V → Hp → VK → Prop) : Prop :=
  ∀ {H : Hp} {F : Addr → Prop} {B : List Addr} {xs : List V} {ds : List D} {d : D} {Q : VK}, OwBs K H F B xs ds → f ds = some d → (∀ v, OwB K H F B v d → Q v H) → r xs H Q
section
variable {X : Cx} {cv : Nat → Value} {W : WX}
theorem env_get {K : PySem.W.Frag} {σ : L2.St} {H : Hp} {F : Addr → Prop} {env : Env} {B : List Addr} {i : Nat} {d : D} (w : Wl K σ H F env B) (q : qVar i env = some d) : ∃ v, σ[i]? = some (some v) ∧ OwB K H F B v d := by
  simp only [qVar] at q
  split at q
  · rename_i d' q'
    cases q
    obtain ⟨v, A, B', h1, h2, h3, _⟩ := EnvR.take _ _ _ i _ w.er q'
    exact ⟨v, h1, A, h2, fun c hc => h3.mem_iff.mpr (List.mem_append_left _ hc)⟩
  · cases q
theorem pq_var {i : Nat} {x : Str} {pos : Pos} (hN : X.N[i]? = some x) (hv : Vis X.env.scope x) (hd : (x == ("__debug__" : Str)) = false) (hcd : (x == ("__classdict__" : Str)) = false) : PE X (.Name x pos) (qr X.K (qVar i)) :=
  (pe_var hN hv hd hcd).imp fun σ H Q ⟨F, env, B, d, w, q, h⟩ => by
    obtain ⟨v, h1, h2⟩ := env_get w q
    exact ⟨v, h1, h v h2⟩
theorem qC_read {K : PySem.W.Frag} {d : D} {v : V} (p : ∀ H F, Fz K H F v d) {σ : L2.St} {H : Hp} {Q : VK} : qr K (qC d) σ H Q → Q v H := fun ⟨F, env, B, d', w, q, h⟩ => by
  cases q
  exact h v (p H F).owB
theorem pq_int {i : Int} {j : Nat} {pos : Pos} : PE X (.Constant (.int i) j pos) (qr X.K (qC (.int i))) := pe_int.imp fun σ H Q => qC_read fun _ _ => fz_int
theorem pq_bl {i : Bool} {j : Nat} {pos : Pos} : PE X (.Constant (.bool i) j pos) (qr X.K (qC (.bl i))) := pe_bl.imp fun σ H Q => qC_read fun _ _ => fz_bl
theorem pq_str {i : Str} {j : Nat} {pos : Pos} : PE X (.Constant (.str i) j pos) (qr X.K (qC (.str i))) := pe_str.imp fun σ H Q => qC_read fun _ _ => fz_str
theorem pq_non {j : Nat} {pos : Pos} : PE X (.Constant .none j pos) (qr X.K (qC .non)) := pe_non.imp fun σ H Q => qC_read fun _ _ => by simp only [Fz]
theorem pq_glob {x : Str} {v : V} {d : D} {u : Value} {pos : Pos} (hg : Gl X x) (hm : X.mg x = some u) (r : RelV v u) (p : ∀ H F, Fz X.K H F v d) (hd : (x == ("__debug__" : Str)) = false) : PE X (.Name x pos) (qr X.K (qC d)) :=
  (pe_glob hg hm r hd).imp fun σ H Q => qC_read p
theorem qTwo_read {K : PySem.W.Frag} {a b : QE} {f : D → D → Option D} {r : R2} (hr : RuleQ K f r) {σ : L2.St} {H : Hp} {Q : VK} : qr K (qTwo a b f) σ H Q → tOp r (qr K a) (qr K b) σ H Q := fun ⟨F, env, B, d, w, q, h⟩ => by
  simp only [qTwo] at q
  split at q
  · rename_i x y h1 h2
    exact ⟨F, env, B, x, w, h1, fun v o1 => ⟨F, env, B, y, w, h2, fun v2 o2 => hr o1 o2 q h⟩⟩
  · cases q
theorem pq_bin {op : Operator} {r : R2} {f : D → D → Option D} {a b : Expr} {o1 o2 : QE} {pos : Pos} (ho : OpR X (binaryOp op) r) (hr : RuleQ X.K f r) (ha : PE X a (qr X.K o1)) (hb : PE X b (qr X.K o2)) :
    PE X (.BinOp a op b pos) (qr X.K (qTwo o1 o2 f)) := (pe_op ho ha hb).imp fun σ H Q => qTwo_read hr
theorem pq_cmp {op : CmpOp} {r : R2} {f : D → D → Option D} {a b : Expr} {o1 o2 : QE} {pos : Pos} (ho : OpR X (compareOp op) r) (hr : RuleQ X.K f r) (hm : behindInMarks op b = false) (ha : PE X a (qr X.K o1)) (hb : PE X b (qr X.K o2)) :
    PE X (.Compare a [op] [b] pos) (qr X.K (qTwo o1 o2 f)) := (pe_cmpR ho ha hb hm).imp fun σ H Q => qTwo_read hr
theorem pq_ix {r : R2} {f : D → D → Option D} {a b : Expr} {o1 o2 : QE} {pos : Pos} (ho : IxR X r) (hr : RuleQ X.K f r) (hs : PlainIx b) (ha : PE X a (qr X.K o1)) (hb : PE X b (qr X.K o2)) :
    PE X (.Subscript a b pos) (qr X.K (qTwo o1 o2 f)) := (pe_ix ho ha hb hs).imp fun σ H Q => qTwo_read hr
def qOne (a : QE) (f : D → Option D) : QE := fun e => match a e with
  | some x => f x
  | _ => none
def fNeg : D → Option D
  | .int i => some (.int (-i))
  | _ => none
theorem pq_neg {a : Expr} {o : QE} {pos : Pos} (ha : PE X a (qr X.K o)) : PE X (.UnaryOp .USub a pos) (qr X.K (qOne o fNeg)) :=
  (pe_un un_neg ha).imp fun σ H Q ⟨F, env, B, d, w, q, h⟩ => by
    simp only [qOne] at q
    split at q
    · rename_i x h1
      cases x <;> try (cases q; done)
      cases q
      exact ⟨F, env, B, _, w, h1, fun v o1 => ⟨_, o1.int, h _ (fz_int (F := F)).owB⟩⟩
    · cases q
theorem paq_nil : PA X [] (qrL X.K qNil) := pa_nil.imp fun σ H Q ⟨F, env, B, d, w, q, h⟩ => by
  cases q
  exact h [] trivial
theorem paq_cons {e : Expr} {es : List Expr} {o : QE} {os : QL} (hs : notStar e = true) (ha : PE X e (qr X.K o)) (hr : PA X es (qrL X.K os)) : PA X (e :: es) (qrL X.K (qCons o os)) :=
  (pa_cons ha hr (star_cons hs)).imp fun σ H Q ⟨F, env, B, d, w, q, h⟩ => by
    simp only [qCons] at q
    split at q
    · rename_i x y h1 h2
      cases q
      exact ⟨F, env, B, x, w, h1, fun v o1 => ⟨F, env, B, y, w, h2, fun v2 o2 => h _ ⟨o1, o2⟩⟩⟩
    · cases q
theorem qApp_read {K : PySem.W.Frag} {os : QL} {f : List D → Option D} {r : List V → Hp → VK → Prop} (hr : RuleQL K f r) {σ : L2.St} {H : Hp} {Q : VK} : qr K (qApp os f) σ H Q → tCB r (qrL K os) σ H Q := fun ⟨F, env, B, d, w, q, h⟩ => by
  simp only [qApp] at q
  split at q
  · rename_i x h1
    exact ⟨F, env, B, x, w, h1, fun v o => hr o q h⟩
  · cases q
section
variable {x : Str} {p pos : Pos} {e : Expr} {es : List Expr} {os : QL} {id T : String} {r : List V → Hp → VK → Prop} {f : List D → Option D}
theorem pq_blt (hc : CallR X (.builtin id) r) (hr : RuleQL X.K f r) (hg : Gl X x) (hm : X.mg x = none) (hv : bootBuiltins x = some (.builtin id)) (hn : x ≠ "__name__") (hdb : (x == ("__debug__" : Str)) = false) (hs : (e :: es).all notStar = true)
    (ha : PA X (e :: es) (qrL X.K os)) : PE X (.Call (.Name x p) (e :: es) [] pos) (qr X.K (qApp os f)) := by
  simp only [List.all_cons, Bool.and_eq_true] at hs
  exact (pe_callB hc hg hm hv ha hn hdb (star_cons hs.1) (star_plain hs.2)).imp fun σ H Q => qApp_read hr
end
/-! from looks to values -/
def sQ (q : QE) : SE := fun e => match q e with
  | some d => if d.isFz then .ok d e else .bad
  | none => .bad
theorem OwB.fzd {K : PySem.W.Frag} {H : Hp} {F : Addr → Prop} {B : List Addr} {v : V} {d : D} (h : OwB K H F B v d) (z : d.isFz = true) : Fz K H F v d := let ⟨_, h, _⟩ := h; (h.isFz z).2
theorem sQ_read {K : PySem.W.Frag} {q : QE} {σ : L2.St} {H : Hp} {Q : VK} : sm K cv W (rD K) (sQ q) σ H Q → qr K q σ H Q := fun ⟨F, env, B, w, f⟩ => by
  simp only [sQ] at f
  split at f
  · rename_i d h1
    split at f
    · rename_i z
      exact ⟨F, env, B, d, w, h1, fun v o => f v H F [] B Ext.refl w (o.fzd z).ow w.dis Sub.refl⟩
    · exact False.elim f
  · exact False.elim f
theorem px_q {e : Expr} {q : QE} (h : PE X e (qr X.K q)) : PE X e (sm X.K cv W (rD X.K) (sQ q)) := h.imp fun σ H Q => sQ_read
/-- two looks, then an operation -/
def sTwoQ (a b : QE) (f : D → D → Option D) : SE := fun e => match a e, b e with
  | some x, some y => (match f x y with
    | some r => .ok r e
    | none => .bad)
  | _, _ => .bad
theorem OwB.or {K : PySem.W.Frag} {H : Hp} {F F' : Addr → Prop} {B : List Addr} {v : V} {d : D} (m : ∀ a, F a → F' a) (e : ∀ a, F' a → F a) (h : OwB K H F B v d) : OwB K H F' B v d := by
  have : F = F' := funext fun a => propext ⟨m a, e a⟩
  rw [← this]; exact h
theorem sTwoQ_read {K : PySem.W.Frag} {a b : QE} {f : D → D → Option D} {r : R2} (hr : Rule2 K f r) {σ : L2.St} {H : Hp} {Q : VK} : sm K cv W (rD K) (sTwoQ a b f) σ H Q → tOp r (qr K a) (qr K b) σ H Q := fun ⟨F, env, B, w, fn⟩ => by
  simp only [sTwoQ] at fn
  split at fn
  · rename_i x y h1 h2
    split at fn
    · rename_i d h3
      exact ⟨F, env, B, x, w, h1, fun v o1 => ⟨F, env, B, y, w, h2, fun v2 o2 =>
        hr (A := []) w w.dis (fun _ z => by cases z) (o1.or (fun _ h => .inl h) fun _ h => h.elim id fun z => by cases z) (o2.or (fun _ h => .inl h) fun _ h => h.elim id fun z => by cases z) h3 fn⟩⟩
    · exact False.elim fn
  · exact False.elim fn
theorem px_binQ {op : Operator} {r : R2} {f : D → D → Option D} {a b : Expr} {o1 o2 : QE} {pos : Pos} (ho : OpR X (binaryOp op) r) (hr : Rule2 X.K f r) (ha : PE X a (qr X.K o1)) (hb : PE X b (qr X.K o2)) :
    PE X (.BinOp a op b pos) (sm X.K cv W (rD X.K) (sTwoQ o1 o2 f)) := (pe_op ho ha hb).imp fun σ H Q => sTwoQ_read hr
theorem px_cmpQ {op : CmpOp} {r : R2} {f : D → D → Option D} {a b : Expr} {o1 o2 : QE} {pos : Pos} (ho : OpR X (compareOp op) r) (hr : Rule2 X.K f r) (hm : behindInMarks op b = false) (ha : PE X a (qr X.K o1)) (hb : PE X b (qr X.K o2)) :
    PE X (.Compare a [op] [b] pos) (sm X.K cv W (rD X.K) (sTwoQ o1 o2 f)) := (pe_cmpR ho ha hb hm).imp fun σ H Q => sTwoQ_read hr
def sAppQ (a : QL) (f : List D → Option D) : SE := fun e => match a e with
  | some x => (match f x with
    | some r => .ok r e
    | none => .bad)
  | _ => .bad
theorem OwBs.or {K : PySem.W.Frag} {H : Hp} {F F' : Addr → Prop} {B : List Addr} (m : ∀ a, F a → F' a) (e : ∀ a, F' a → F a) {v : List V} {d : List D} (h : OwBs K H F B v d) : OwBs K H F' B v d := by
  have : F = F' := funext fun a => propext ⟨m a, e a⟩
  rw [← this]; exact h
theorem sAppQ_read {K : PySem.W.Frag} {a : QL} {f : List D → Option D} {r : List V → Hp → VK → Prop} (hr : RuleL K f r) {σ : L2.St} {H : Hp} {Q : VK} : sm K cv W (rD K) (sAppQ a f) σ H Q → tCB r (qrL K a) σ H Q := fun ⟨F, env, B, w, fn⟩ => by
  simp only [sAppQ] at fn
  split at fn
  · rename_i x h1
    split at fn
    · rename_i d h3
      exact ⟨F, env, B, x, w, h1, fun v o1 => hr (A := []) w w.dis (fun _ z => by cases z) (o1.or (fun _ h => .inl h) fun _ h => h.elim id fun z => by cases z) h3 fn⟩
    · exact False.elim fn
  · exact False.elim fn
section
variable {x : Str} {p pos : Pos} {e : Expr} {es : List Expr} {os : QL} {id T : String} {r : List V → Hp → VK → Prop} {f : List D → Option D}
theorem px_bltQ (hc : CallR X (.builtin id) r) (hr : RuleL X.K f r) (hg : Gl X x) (hm : X.mg x = none) (hv : bootBuiltins x = some (.builtin id)) (hn : x ≠ "__name__") (hdb : (x == ("__debug__" : Str)) = false) (hs : (e :: es).all notStar = true)
    (ha : PA X (e :: es) (qrL X.K os)) : PE X (.Call (.Name x p) (e :: es) [] pos) (sm X.K cv W (rD X.K) (sAppQ os f)) := by
  simp only [List.all_cons, Bool.and_eq_true] at hs
  exact (pe_callB hc hg hm hv ha hn hdb (star_cons hs.1) (star_plain hs.2)).imp fun σ H Q => sAppQ_read hr
theorem px_btyQ (hc : CallR X (.type T) r) (hr : RuleL X.K f r) (hg : Gl X x) (hm : X.mg x = none) (hv : bootBuiltins x = some (.type T)) (hn : x ≠ "__name__") (hdb : (x == ("__debug__" : Str)) = false) (hs : (e :: es).all notStar = true)
    (ha : PA X (e :: es) (qrL X.K os)) : PE X (.Call (.Name x p) (e :: es) [] pos) (sm X.K cv W (rD X.K) (sAppQ os f)) := by
  simp only [List.all_cons, Bool.and_eq_true] at hs
  exact (pe_callTy hc hg hm hv ha hn hdb (star_cons hs.1) (star_plain hs.2)).imp fun σ H Q => sAppQ_read hr
end
/-! ## unary minus, truth, and, or, not -/
def sOne (o : SO) (f : D → Option D) : SE := fun e => (o e).bind fun a e1 => match rsv e1 a with
  | some x => (match f x with
    | some r => .ok r e1
    | none => .bad)
  | none => .bad
theorem px_neg {a : Expr} {o : SO} {pos : Pos} (ha : PE X a (sm X.K cv W (rA X.K) o)) : PE X (.UnaryOp .USub a pos) (sm X.K cv W (rD X.K) (sOne o fNeg)) := by
  refine (pe_un un_neg ha).imp fun σ H Q h => ?_
  refine (sm.run0 (P := rA X.K) (m := o) h).mono fun v H1 ⟨F2, env2, a, A2, B2, w2, p2, d2, f2⟩ => ?_
  split at f2
  · rename_i x q
    have t : ∀ c ∈ A2, H1 c ≠ none := st_A.there p2
    have ob := rsv_ok (w2.freeze d2 t) (fun c h => .inl h) (fun c h => .inr h) p2 q
    split at f2
    · rename_i r e
      cases x <;> try (cases e; done)
      cases e
      exact ⟨_, ob.int, fin_val w2 d2 t f2 fz_int⟩
    · exact False.elim f2
  · exact False.elim f2
/-- a bool, as a test -/
def sB (d : SE) : SM Bool := fun e => (d e).bind fun x e1 => match x with
  | .bl b => .ok b e1
  | _ => .bad
theorem sB_read {K : PySem.W.Frag} {d : SE} {σ : L2.St} {H : Hp} {Q : Bool → Hp → Prop} (h : sm K cv W rB (sB d) σ H Q) : tTest (sm K cv W (rD K) d) σ H Q := by
  refine (sm.run0 (P := rD K) (m := d) h).mono fun v H1 ⟨F2, env2, x, A2, B2, w2, p2, d2, f2⟩ => ?_
  cases x <;> try (exact False.elim f2)
  rename_i b
  have p2' : Ow K H1 F2 v (.bl b) A2 := p2
  simp only [Ow] at p2'
  obtain ⟨rfl, rfl⟩ := p2'
  exact ⟨b, rfl, f2 b H1 F2 [] B2 Ext.refl w2 ⟨rfl, rfl⟩ w2.dis Sub.refl⟩
theorem pt_cmpS {op : CmpOp} {r : R2} {f : D → D → Option D} {a b : Expr} {o1 o2 : SO} {pos : Pos} (ho : OpR X (compareOp op) r) (hr : Rule2 X.K f r) (hm : behindInMarks op b = false) (ha : PE X a (sm X.K cv W (rA X.K) o1)) (hb : PE X b (sm X.K cv W (rA X.K) o2)) :
    PT X (.Compare a [op] [b] pos) (sm X.K cv W rB (sB (sTwo o1 o2 f))) := (pt_cmpR ho ha hb hm).imp fun σ H Q h => by
  obtain h := sB_read h
  exact sTwo_read hr h
theorem pt_cmpSQ {op : CmpOp} {r : R2} {f : D → D → Option D} {a b : Expr} {o1 o2 : QE} {pos : Pos} (ho : OpR X (compareOp op) r) (hr : Rule2 X.K f r) (hm : behindInMarks op b = false) (ha : PE X a (qr X.K o1)) (hb : PE X b (qr X.K o2)) :
    PT X (.Compare a [op] [b] pos) (sm X.K cv W rB (sB (sTwoQ o1 o2 f))) := (pt_cmpR ho ha hb hm).imp fun σ H Q h => by
  obtain h := sB_read h
  exact sTwoQ_read hr h
def PlainT (e : Expr) : Prop := ∀ env whole, isTrue e env whole = (do let v ← whole; standAt e.pos; holding [v] (truthy v))
/-- truth of a value -/
def truD : D → Option Bool
  | .non => some false
  | .bl b => some b
  | .int i => some (i != 0)
  | .str z => if decide (z.length ≤ sizeLine) then some ((z.length : Int) != 0) else none
  | .tup l => some (!l.isEmpty)
  | .lst _ l => some (!l.isEmpty)
  | .scr l => some (!l.isEmpty)
  | .adr _ => none
theorem emp_len {α β : Type} {l : List α} {m : List β} (h : l.length = m.length) : l.isEmpty = m.isEmpty := by
  cases l <;> cases m <;> first | rfl | cases h
theorem truD_ok {K : PySem.W.Frag} {H : Hp} {F : Addr → Prop} {B : List Addr} {v : V} {d : D} {b : Bool} (o : OwB K H F B v d) (h : truD d = some b) : TruV K v H b := by
  cases d with
  | non => rw [o.non]; cases h; rfl
  | bl b => rw [o.bl]; cases h; rfl
  | int b => rw [o.int]; cases h; rfl
  | str z =>
    rw [o.str]
    simp only [truD] at h
    split at h
    · rename_i q
      cases h
      exact ⟨of_decide_eq_true q, rfl⟩
    · cases h
  | tup l => obtain ⟨a, xs, rfl, q, r⟩ := o.tup; cases h; exact .inr (.inl ⟨xs, q, by rw [emp_len r.length]⟩)
  | lst _ l => obtain ⟨a, xs, rfl, q, r, _⟩ := o.lst; cases h; exact .inl ⟨xs, .inl (.inl q), by rw [emp_len r]⟩
  | scr l => obtain ⟨a, xs, rfl, q, r⟩ := o.scr; cases h; exact .inl ⟨xs, q, by rw [emp_len r.length]⟩
  | adr a => cases h
def sTru (o : SO) : SM Bool := fun e => (o e).bind fun a e1 => match rsv e1 a with
  | some x => (match truD x with
    | some b => .ok b e1
    | none => .bad)
  | none => .bad
theorem fin_B {K : PySem.W.Frag} {σ : L2.St} {H : Hp} {F : Addr → Prop} {A B : List Addr} {env : Env} {b : Bool} {Q : Bool → Hp → Prop} (w : Wl K σ H F env B) (dd : Dis F (A ++ B)) (t : ∀ a ∈ A, H a ≠ none)
    (f : Fin K cv W rB σ H F (A ++ B) Q (.ok b env)) : Q b H :=
  f b H (fun a => F a ∨ a ∈ A) [] B (Ext.freeze (fun a h => List.mem_append_left _ h) t) (w.freeze dd t) ⟨rfl, rfl⟩ (w.freeze dd t).dis (fun a h => .inl (List.mem_append_right _ h))
theorem pt_tru {e : Expr} {o : SO} (h : PE X e (sm X.K cv W (rA X.K) o)) (he : PlainT e) : PT X e (sm X.K cv W rB (sTru o)) := by
  refine (pt_truth h (he X.env)).imp fun σ H Q h => ?_
  refine (sm.run0 (P := rA X.K) (m := o) h).mono fun v H1 ⟨F2, env2, a, A2, B2, w2, p2, d2, f2⟩ => ?_
  split at f2
  · rename_i x q
    have t : ∀ c ∈ A2, H1 c ≠ none := st_A.there p2
    have ob := rsv_ok (w2.freeze d2 t) (fun c h => .inl h) (fun c h => .inr h) p2 q
    split at f2
    · rename_i b e
      exact ⟨b, truD_ok ob e, fin_B w2 d2 t f2⟩
    · exact False.elim f2
  · exact False.elim f2
def sTruQ (o : QE) : SM Bool := fun e => match o e with
  | some x => (match truD x with
    | some b => .ok b e
    | none => .bad)
  | none => .bad
theorem pt_truQ {e : Expr} {o : QE} (h : PE X e (qr X.K o)) (he : PlainT e) : PT X e (sm X.K cv W rB (sTruQ o)) := by
  refine (pt_truth h (he X.env)).imp fun σ H Q ⟨F, env, B, w, f2⟩ => ?_
  simp only [sTruQ] at f2
  split at f2
  · rename_i x q
    split at f2
    · rename_i b e
      exact ⟨F, env, B, x, w, q, fun v ob => ⟨b, truD_ok ob e, f2 b H F [] B Ext.refl w ⟨rfl, rfl⟩ w.dis Sub.refl⟩⟩
    · exact False.elim f2
  · exact False.elim f2
/-! ### tests put together -/
def sAnd (a b : SM Bool) : SM Bool := fun e => (a e).bind fun x e1 => if x = true then b e1 else .ok false e1
def sOr (a b : SM Bool) : SM Bool := fun e => (a e).bind fun x e1 => if x = true then .ok true e1 else b e1
def sNot (a : SM Bool) : SM Bool := fun e => (a e).bind fun x e1 => .ok (!x) e1
theorem rB_in {K : PySem.W.Frag} {σ : L2.St} {H : Hp} {F : Addr → Prop} {env : Env} {b x : Bool} {A B : List Addr} {Q : Bool → Hp → Prop} (w : Wl K σ H F env B) (p : rB σ H F b x A) (f : Fin K cv W rB σ H F (A ++ B) Q (.ok x env)) : Q b H := by
  obtain ⟨rfl, rfl⟩ := p
  exact f _ H F [] B Ext.refl w ⟨rfl, rfl⟩ w.dis Sub.refl
theorem sAnd_read {K : PySem.W.Frag} {a b : SM Bool} {σ : L2.St} {H : Hp} {Q : Bool → Hp → Prop} (h : sm K cv W rB (sAnd a b) σ H Q) : tAnd (sm K cv W rB a) (sm K cv W rB b) σ H Q := by
  refine (sm.run0 (P := rB) (m := a) h).mono fun v H1 ⟨F2, env2, x, A2, B2, w2, p2, d2, f2⟩ => ?_
  obtain ⟨rfl, rfl⟩ := p2
  cases v with
  | true => exact ⟨F2, env2, B2, w2, f2⟩
  | false => exact f2 false H1 F2 [] B2 Ext.refl w2 ⟨rfl, rfl⟩ w2.dis Sub.refl
theorem sOr_read {K : PySem.W.Frag} {a b : SM Bool} {σ : L2.St} {H : Hp} {Q : Bool → Hp → Prop} (h : sm K cv W rB (sOr a b) σ H Q) : tOr (sm K cv W rB a) (sm K cv W rB b) σ H Q := by
  refine (sm.run0 (P := rB) (m := a) h).mono fun v H1 ⟨F2, env2, x, A2, B2, w2, p2, d2, f2⟩ => ?_
  obtain ⟨rfl, rfl⟩ := p2
  cases v with
  | false => exact ⟨F2, env2, B2, w2, f2⟩
  | true => exact f2 true H1 F2 [] B2 Ext.refl w2 ⟨rfl, rfl⟩ w2.dis Sub.refl
section
variable {a b : Expr} {rest : List Expr} {pos : Pos} {t u : SM Bool}
theorem pw_andS (ha : PT X a (sm X.K cv W rB t)) (hb : PW X (.BoolOp .And (b :: rest) pos) (sm X.K cv W rB u)) : PW X (.BoolOp .And (a :: b :: rest) pos) (sm X.K cv W rB (sAnd t u)) :=
  ⟨fun wh pins s σ H Q I h => (pw_and ha hb).run wh pins s σ H Q I (sAnd_read h)⟩
theorem pw_orS (ha : PT X a (sm X.K cv W rB t)) (hb : PW X (.BoolOp .Or (b :: rest) pos) (sm X.K cv W rB u)) : PW X (.BoolOp .Or (a :: b :: rest) pos) (sm X.K cv W rB (sOr t u)) :=
  ⟨fun wh pins s σ H Q I h => (pw_or ha hb).run wh pins s σ H Q I (sOr_read h)⟩
theorem pt_notS (ha : PT X a (sm X.K cv W rB t)) : PT X (.UnaryOp .Not a pos) (sm X.K cv W rB (sNot t)) :=
  (pt_not ha).imp fun σ H Q h => (sm.run0 (P := rB) (m := t) h).mono fun v H1 ⟨F2, env2, x, A2, B2, w2, p2, d2, f2⟩ => by
    obtain ⟨rfl, rfl⟩ := p2
    exact f2 _ H1 F2 [] B2 Ext.refl w2 ⟨rfl, rfl⟩ w2.dis Sub.refl
end
/-! as values -/
def sAndV (a : SE) (b : SE) : SE := fun e => (sB a e).bind fun x e1 => if x = true then b e1 else .ok (.bl false) e1
def sOrV (a : SE) (b : SE) : SE := fun e => (sB a e).bind fun x e1 => if x = true then .ok (.bl true) e1 else b e1
def sNotV (a : SE) : SE := fun e => (sB a e).bind fun x e1 => .ok (.bl (!x)) e1
section
variable {K : PySem.W.Frag} {σ : L2.St} {H : Hp} {Q : VK} {g : Bool → Env → R D} {d : SE}
theorem sB_run (h : sm K cv W (rD K) (fun e => (sB d e).bind g) σ H Q) : sm K cv W (rD K) d σ H fun v H1 => ∃ b, v = .bl b ∧ ∃ F env B, Wl K σ H1 F env B ∧ Fin K cv W (rD K) σ H1 F B Q (g b env) := by
  have h' : sm K cv W (rD K) (fun e => (d e).bind fun x e1 => match x with
    | .bl b => g b e1
    | _ => .bad) σ H Q := by
    have key : ∀ env, (sB d env).bind g = (d env).bind fun x e1 => match x with
      | .bl b => g b e1
      | _ => .bad := fun env => by
      unfold sB
      cases d env with
      | bad => rfl
      | exc c e' => rfl
      | ok a e' => cases a <;> rfl
    obtain ⟨F, env, B, w, f⟩ := h
    exact ⟨F, env, B, w, by dsimp only; rw [← key env]; exact f⟩
  refine (sm.run0 (P := rD K) (m := d) h').mono fun v H1 ⟨F2, env2, x, A2, B2, w2, p2, d2, f2⟩ => ?_
  cases x <;> try (exact False.elim f2)
  rename_i b
  have p2' : Ow K H1 F2 v (.bl b) A2 := p2
  simp only [Ow] at p2'
  obtain ⟨rfl, rfl⟩ := p2'
  exact ⟨b, rfl, F2, env2, B2, w2, f2⟩
end
theorem fin_bl' {K : PySem.W.Frag} {σ : L2.St} {H : Hp} {F : Addr → Prop} {B : List Addr} {env : Env} {b : Bool} {Q : VK} (w : Wl K σ H F env B) (f : Fin K cv W (rD K) σ H F B Q (.ok (.bl b) env)) : Q (.bl b) H :=
  f _ H F [] B Ext.refl w (fz_bl (F := F)).ow w.dis Sub.refl
section
variable {a b : Expr} {rest : List Expr} {pos : Pos} {t u : SE}
theorem px_and (ha : PE X a (sm X.K cv W (rD X.K) t)) (hb : PE X (.BoolOp .And (b :: rest) pos) (sm X.K cv W (rD X.K) u)) : PE X (.BoolOp .And (a :: b :: rest) pos) (sm X.K cv W (rD X.K) (sAndV t u)) :=
  (pe_and ha hb).imp fun σ H Q h => (sB_run h).mono fun v H1 ⟨b, e, F, env, B, w, f⟩ => ⟨b, e, by
    cases b with
    | true => exact ⟨F, env, B, w, f⟩
    | false => exact fin_bl' w f⟩
theorem px_or (ha : PE X a (sm X.K cv W (rD X.K) t)) (hb : PE X (.BoolOp .Or (b :: rest) pos) (sm X.K cv W (rD X.K) u)) : PE X (.BoolOp .Or (a :: b :: rest) pos) (sm X.K cv W (rD X.K) (sOrV t u)) :=
  (pe_or ha hb).imp fun σ H Q h => (sB_run h).mono fun v H1 ⟨b, e, F, env, B, w, f⟩ => ⟨b, e, by
    cases b with
    | false => exact ⟨F, env, B, w, f⟩
    | true => exact fin_bl' w f⟩
theorem px_one {op : BoolOp} (ha : PE X a (sm X.K cv W (rD X.K) t)) : PE X (.BoolOp op [a] pos) (sm X.K cv W (rD X.K) t) := pe_one ha
theorem px_not (ha : PE X a (sm X.K cv W (rD X.K) t)) : PE X (.UnaryOp .Not a pos) (sm X.K cv W (rD X.K) (sNotV t)) :=
  (pe_not ha).imp fun σ H Q h => (sB_run h).mono fun v H1 ⟨b, e, F, env, B, w, f⟩ => ⟨b, e, fin_bl' w f⟩
/-- a if c else b -/
def sIfE (c : SM Bool) (a b : SE) : SE := fun e => (c e).bind fun x e1 => if x = true then a e1 else b e1
theorem px_ifE {c : Expr} {m : SM Bool} (hc : PT X c (sm X.K cv W rB m)) (ha : PE X a (sm X.K cv W (rD X.K) t)) (hb : PE X b (sm X.K cv W (rD X.K) u)) : PE X (.IfExp c a b pos) (sm X.K cv W (rD X.K) (sIfE m t u)) :=
  (pe_ifExp hc ha hb).imp fun σ H Q h => (sm.run0 (P := rB) (m := m) h).mono fun v H1 ⟨F2, env2, x, A2, B2, w2, p2, d2, f2⟩ => by
    obtain ⟨rfl, rfl⟩ := p2
    cases v with
    | true => exact ⟨F2, env2, B2, w2, f2⟩
    | false => exact ⟨F2, env2, B2, w2, f2⟩
end
end
end PV
set_option Elab.async false
set_option linter.all false
set_option maxRecDepth 100000
set_option maxHeartbeats 4000000
namespace PV
open PySem PySem.Spec PyProof.Rows L2
variable [Tabs]

structure OkX (X : Cx) : Prop where
  calm : X.calm = true
  units : X.A.units + 65 < cLine

def fOr (f g : D → D → Option D) : D → D → Option D := fun x y => (f x y).orElse fun _ => g x y
def fOrL (f g : List D → Option D) : List D → Option D := fun x => (f x).orElse fun _ => g x
section
variable {K : PySem.W.Frag}
/-! ### the operators, each with all that it is used for -/
def rOr (r r' : R2) : R2 := fun x y H Q => r x y H Q ∨ r' x y H Q
def rOrL (r r' : List V → Hp → VK → Prop) : List V → Hp → VK → Prop := fun x H Q => r x H Q ∨ r' x H Q
theorem CallR.orr {X : Cx} {f : Value} {r r' : List V → Hp → VK → Prop} (h : CallR X f r) (h' : CallR X f r') : CallR X f (rOrL r r') := by
  intro pins s σ H vs us Q I rx q
  rcases q with q | q
  · exact h pins s σ H vs us Q I rx q
  · exact h' pins s σ H vs us Q I rx q
def fAdd : D → D → Option D := fOr (fI (fun _ _ => true) fun i j => .int (i + j)) (fOr fCatT (fOr fCatL fCatS))
def rAdd (K : PySem.W.Frag) : R2 := rOr (rI0 fun i j => .int (i + j)) (rOr (rCatA K) (rOr rCat (fun x y H Q => ∃ i j, x = .str i ∧ y = .str j ∧ i.length + j.length ≤ sizeLine ∧ Q (.str (i ++ j)) H)))
theorem rule_add : Rule2 K fAdd (rAdd K) := Rule2.or (rule_I0 fun _ _ _ _ => fz_int) (Rule2.or rule_catT (Rule2.or rule_catL rule_catS))
theorem op_addA {X : Cx} : OpR X (binaryOp .Add) (rAdd X.K) := op_add.or (op_catA.or (op_cat.or op_add_str))
def fSub : D → D → Option D := fI (fun _ _ => true) fun i j => .int (i - j)
theorem rule_sub : Rule2 K fSub (rI0 fun i j => .int (i - j)) := rule_I0 fun _ _ _ _ => fz_int
def fMul : D → D → Option D := fOr (fI mulOk fun i j => .int (i * j)) (fOr fRepT fRepL)
def rMul (K : PySem.W.Frag) : R2 := rOr (rI IntMulOk fun i j => .int (i * j)) (rOr (rRepTX K) rRep)
theorem rule_mul : Rule2 K fMul (rMul K) := Rule2.or (rule_I (fun _ _ => mulOk_ok) fun _ _ _ _ => fz_int) (Rule2.or rule_repT rule_repL)
theorem op_mulA {X : Cx} : OpR X (binaryOp .Mult) (rMul X.K) := op_mulX.or (op_repTX.or op_rep)
def fFdiv : D → D → Option D := fI divOk fun i j => .int (i.fdiv j)
theorem rule_fdiv : Rule2 K fFdiv (rI CFdiv fun i j => .int (i.fdiv j)) := rule_I (fun _ _ => divOk_ok) fun _ _ _ _ => fz_int
def fMod : D → D → Option D := fI (fun _ j => decide (j ≠ 0)) fun i j => .int (i.fmod j)
theorem rule_mod : Rule2 K fMod (rI (fun _ j => j ≠ 0) fun i j => .int (i.fmod j)) := rule_I (fun _ _ h => of_decide_eq_true h) fun _ _ _ _ => fz_int
def fPow : D → D → Option D := fI powOk fun i j => .int (i ^ j.toNat)
theorem rule_pow : Rule2 K fPow (rI CPowX fun i j => .int (i ^ j.toNat)) := rule_I (fun _ _ => powOk_ok) fun _ _ _ _ => fz_int
/-! comparisons -/
def fLt : D → D → Option D := fOr (fI (fun _ _ => true) fun i j => .bl (decide (i < j))) (fOr (fTI HT.lexLt) (fS fun i j => decide (i.cps.toList < j.cps.toList)))
def rLt (K : PySem.W.Frag) : R2 := rOr (rI0 fun i j => .bl (decide (i < j))) (rOr (rLtT K) (fun x y H Q => ∃ i j, x = .str i ∧ y = .str j ∧ Q (.bl (decide (i.cps.toList < j.cps.toList))) H))
theorem rule_lt : Rule2 K fLt (rLt K) := Rule2.or (rule_I0 fun _ _ _ _ => fz_bl) (Rule2.or rule_ltT rule_ltS)
theorem op_ltA {X : Cx} (o : OkX X) : OpR X (compareOp .Lt) (rLt X.K) := op_lt.or ((op_ltT (by have := o.units; omega)).or op_lt_str)
def fLe : D → D → Option D := fOr (fI (fun _ _ => true) fun i j => .bl (decide (i ≤ j))) (fTI leTI)
def rLe (K : PySem.W.Frag) : R2 := rOr (rI0 fun i j => .bl (decide (i ≤ j))) (rLeT K)
theorem rule_le : Rule2 K fLe (rLe K) := Rule2.or (rule_I0 fun _ _ _ _ => fz_bl) rule_leT
theorem op_leA {X : Cx} (o : OkX X) : OpR X (compareOp .LtE) (rLe X.K) := op_le.or (op_leT (by have := o.units; omega))
def fGt : D → D → Option D := fI (fun _ _ => true) fun i j => .bl (decide (j < i))
theorem rule_gt : Rule2 K fGt (rI0 fun i j => .bl (decide (j < i))) := rule_I0 fun _ _ _ _ => fz_bl
def fGe : D → D → Option D := fI (fun _ _ => true) fun i j => .bl (decide (j ≤ i))
theorem rule_ge : Rule2 K fGe (rI0 fun i j => .bl (decide (j ≤ i))) := rule_I0 fun _ _ _ _ => fz_bl
/-- in a list, a tuple of ints, a str -/
def fIn : D → D → Option D := fOr (fInT false) (fOr (fInL false) (fInS false))
def rInA (K : PySem.W.Frag) : R2 := rOr (rIn K false) (rOr (rInD K) (fun x y H Q => ∃ i j, x = .str i ∧ y = .str j ∧ Q (.bl (!(Builtin.Str.occurrences j i 0 j.length 1).isEmpty)) H))
theorem rule_in : Rule2 K fIn (rInA K) := Rule2.or rule_inT (Rule2.or rule_inL rule_inS)
theorem op_inA {X : Cx} (o : OkX X) : OpR X (compareOp .In) (rInA X.K) := op_in_seq.or ((op_inD o.units).or op_in_str)
def fNin : D → D → Option D := fOr (fInT true) (fOr (fInL true) (fInS true))
def rNinA (K : PySem.W.Frag) : R2 := rOr (rIn K true) (rOr (rNotInD K) (fun x y H Q => ∃ i j, x = .str i ∧ y = .str j ∧ Q (.bl (!(!(Builtin.Str.occurrences j i 0 j.length 1).isEmpty))) H))
theorem rule_nin : Rule2 K fNin (rNinA K) := Rule2.or rule_inT (Rule2.or rule_notInL rule_notInS)
theorem op_ninA {X : Cx} (o : OkX X) : OpR X (compareOp .NotIn) (rNinA X.K) := op_notIn_seq.or ((op_notInD o.units).or op_notin_str)
/-- is None, is True -/
def D.isNon : D → Bool
  | .non => true
  | _ => false
def fIsN (neg : Bool) : D → D → Option D
  | x, .non => some (.bl (if neg then !x.isNon else x.isNon))
  | _, _ => none
theorem non_iff {H : Hp} {F : Addr → Prop} {B : List Addr} {v : V} {d : D} (o : OwB K H F B v d) : decide (v = .non) = d.isNon := by
  cases d with
  | non => rw [o.non]; rfl
  | bl b => rw [o.bl]; rfl
  | int b => rw [o.int]; rfl
  | str z => rw [o.str]; rfl
  | tup l => obtain ⟨a, xs, rfl, _⟩ := o.tup; rfl
  | lst _ l => obtain ⟨a, xs, rfl, _⟩ := o.lst; rfl
  | scr l => obtain ⟨a, xs, rfl, _⟩ := o.scr; rfl
  | adr a => rw [o.adr]; rfl
theorem rule_isN : Rule2 K (fIsN false) (fun x y H Q => y = .non ∧ Q (.bl (decide (x = .non))) H) := by
  intro cv W σ H F A B env x y dx dy d Q w dd t ox oy e fin
  cases dy <;> try (simp [fIsN] at e; done)
  cases e
  refine ⟨oy.non, ?_⟩
  rw [non_iff ox]
  exact fin_val w dd t fin fz_bl
theorem rule_notN : Rule2 K (fIsN true) (fun x y H Q => y = .non ∧ Q (.bl (!decide (x = .non))) H) := by
  intro cv W σ H F A B env x y dx dy d Q w dd t ox oy e fin
  cases dy <;> try (simp [fIsN] at e; done)
  cases e
  refine ⟨oy.non, ?_⟩
  rw [non_iff ox]
  exact fin_val w dd t fin fz_bl
def fIs : D → D → Option D := fOr (fIsN false) (fB fun a b => decide (a = b))
def rIs : R2 := rOr (fun x y H Q => y = .non ∧ Q (.bl (decide (x = .non))) H) rIsB
theorem rule_is : Rule2 K fIs rIs := Rule2.or rule_isN rule_isB
theorem op_isA {X : Cx} : OpR X (compareOp .Is) rIs := op_isN.or op_isBl
def fIsnt : D → D → Option D := fOr (fIsN true) (fB fun a b => !decide (a = b))
def rIsnt : R2 := rOr (fun x y H Q => y = .non ∧ Q (.bl (!decide (x = .non))) H) rNotB
theorem rule_isnt : Rule2 K fIsnt rIsnt := Rule2.or rule_notN rule_notB
theorem op_isntA {X : Cx} : OpR X (compareOp .IsNot) rIsnt := op_notN.or op_notBl
theorem op_eqA {X : Cx} (o : OkX X) : OpR X (compareOp .Eq) (rEqD X.K) := op_eqD (by have := o.units; omega)
theorem op_neA {X : Cx} (o : OkX X) : OpR X (compareOp .NotEq) (rNeD X.K) := op_neD (by have := o.units; omega)

/-! ### the same as looks -/
theorem ruleq_I {C : Int → Int → Bool} {C' : Int → Int → Prop} {g : Int → Int → D} {gv : Int → Int → V} (hC : ∀ i j, C i j = true → C' i j) (hg : ∀ i j H F, Fz K H F (gv i j) (g i j)) : RuleQ K (fI C g) (rI C' gv) := by
  intro H F B x y dx dy d Q ox oy e fin
  cases dx <;> cases dy <;> try (simp [fI] at e; done)
  rename_i i j
  simp only [fI] at e
  split at e
  · rename_i hc
    cases e
    exact ⟨i, j, ox.int, oy.int, hC i j hc, fin _ (hg i j H F).owB⟩
  · cases e
theorem ruleq_I0 {g : Int → Int → D} {gv : Int → Int → V} (hg : ∀ i j H F, Fz K H F (gv i j) (g i j)) : RuleQ K (fI (fun _ _ => true) g) (rI0 gv) := by
  intro H F B x y dx dy d Q ox oy e fin
  cases dx <;> cases dy <;> try (simp [fI] at e; done)
  rename_i i j
  simp only [fI, if_true] at e
  cases e
  exact ⟨i, j, ox.int, oy.int, fin _ (hg i j H F).owB⟩
theorem OwL.get {H : Hp} {F : Addr → Prop} : ∀ {l : List D} {xs : List V} {A : List Addr} {i : Nat} {d : D}, OwL K H F xs l A → l[i]? = some d → ∃ x A', xs[i]? = some x ∧ Ow K H F x d A' ∧ ∀ c ∈ A', c ∈ A
  | [], xs, A, i, d, h, e => by simp at e
  | d0 :: l, xs, A, i, d, h, e => by
    simp only [OwL] at h
    obtain ⟨y, ys, A1, A2, rfl, rfl, h1, h2⟩ := h
    cases i with
    | zero =>
      simp only [List.getElem?_cons_zero, Option.some.injEq] at e
      subst e
      exact ⟨y, A1, by simp, h1, fun c hc => List.mem_append_left _ hc⟩
    | succ i =>
      simp only [List.getElem?_cons_succ] at e
      obtain ⟨x, A', q1, q2, q3⟩ := OwL.get h2 e
      exact ⟨x, A', by simpa using q1, q2, fun c hc => List.mem_append_right _ (q3 c hc)⟩
/-- an item, where it stands -/
def fIxQ : D → D → Option D
  | .tup l, .int i => atI l i
  | .scr l, .int i => atI l i
  | .lst _ l, .int i => atI l i
  | _, _ => none
theorem OwB.lsts {H : Hp} {F : Addr → Prop} {B : List Addr} {o : Bool} {l : List D} {v : V} (h : OwB K H F B v (.lst o l)) : ∃ a xs As, v = .ref a ∧ H a = some (.lst xs) ∧ OwL K H F xs l As ∧ ∀ c ∈ As, c ∈ B := by
  obtain ⟨A, h, m⟩ := h
  cases o with
  | true =>
    simp only [Ow] at h
    obtain ⟨a, xs, As, e, q, rfl, r⟩ := h
    exact ⟨a, xs, As, e, q, r, fun c hc => m c (List.mem_cons_of_mem _ hc)⟩
  | false =>
    simp only [Ow] at h
    obtain ⟨_, a, xs, e, q, r⟩ := h
    exact ⟨a, xs, [], e, q.1, r.ow, fun c hc => by cases hc⟩
theorem at_ow {H : Hp} {F : Addr → Prop} {B A : List Addr} {l : List D} {xs : List V} {i : Int} {d : D} (h : OwL K H F xs l A) (m : ∀ c ∈ A, c ∈ B) (e : atI l i = some d) : ∃ x, atI xs i = some x ∧ OwB K H F B x d := by
  unfold atI at e ⊢
  rw [h.length]
  cases q : ixN l.length i with
  | none => rw [q] at e; cases e
  | some j =>
    rw [q] at e
    obtain ⟨x, A', q1, q2, q3⟩ := h.get e
    exact ⟨x, q1, A', q2, fun c hc => m c (q3 c hc)⟩
theorem ruleq_ix : RuleQ K fIxQ (rIx K) := by
  intro H F B x y dx dy d Q ox oy e fin
  cases dx <;> cases dy <;> try (simp [fIxQ] at e; done)
  · rename_i l i
    simp only [fIxQ] at e
    obtain ⟨a, xs, rfl, q1, r1⟩ := ox.tup
    obtain ⟨v, h1, h2⟩ := at_fz r1 e
    exact .inr (.inl ⟨a, xs, i, v, rfl, oy.int, q1, h1, fin _ h2.owB⟩)
  · rename_i o l i
    simp only [fIxQ] at e
    obtain ⟨a, xs, As, rfl, q1, r1, m⟩ := ox.lsts
    obtain ⟨v, h1, h2⟩ := at_ow r1 m e
    exact .inl ⟨a, xs, i, v, rfl, oy.int, .inl (.inl q1), h1, fin _ h2⟩
  · rename_i l i
    simp only [fIxQ] at e
    obtain ⟨a, xs, rfl, q1, r1⟩ := ox.scr
    obtain ⟨v, h1, h2⟩ := at_fz r1 e
    exact .inl ⟨a, xs, i, v, rfl, oy.int, q1, h1, fin _ h2.owB⟩
theorem ruleq_len : RuleQL K fLen (fun xs H Q => ∃ x n, xs = [x] ∧ LenV K x H n ∧ Q (.int n) H) := by
  intro H F B xs ds d Q o e fin
  match ds, e with
  | [.tup l], e =>
    obtain ⟨x, rfl, ox⟩ := one_of o
    obtain ⟨a, xs, rfl, q, r⟩ := ox.tup
    cases e
    exact ⟨_, l.length, rfl, .inr ⟨xs, q, r.length.symm⟩, fin _ (fz_int (F := F)).owB⟩
  | [.lst b l], e =>
    obtain ⟨x, rfl, ox⟩ := one_of o
    obtain ⟨a, xs, rfl, q, r, _⟩ := ox.lst
    cases e
    exact ⟨_, l.length, rfl, .inl ⟨xs, .inl (.inl q), r.symm⟩, fin _ (fz_int (F := F)).owB⟩
  | [.scr l], e =>
    obtain ⟨x, rfl, ox⟩ := one_of o
    obtain ⟨a, xs, rfl, q, r⟩ := ox.scr
    cases e
    exact ⟨_, l.length, rfl, .inl ⟨xs, q, r.length.symm⟩, fin _ (fz_int (F := F)).owB⟩
  | [.str z], e =>
    obtain ⟨x, rfl, ox⟩ := one_of o
    rw [ox.str]
    simp only [fLen] at e
    split at e
    · rename_i hc
      cases e
      exact ⟨_, z.length, rfl, ⟨of_decide_eq_true hc, rfl⟩, fin _ (fz_int (F := F)).owB⟩
    · cases e

/-! ### sum, max, min of a tuple, too; displays -/
def tupInts : D → Option (List Int)
  | .tup l => intsOf l
  | _ => none
theorem tupInts_ok {H : Hp} {F : Addr → Prop} {B : List Addr} {x : V} {d : D} {ns : List Int} (o : OwB K H F B x d) (e : tupInts d = some ns) : ∃ a, x = .ref a ∧ SqT K H a (ns.map V.int) := by
  cases d <;> try (simp [tupInts] at e; done)
  simp only [tupInts] at e
  obtain ⟨a, xs, rfl, q, r⟩ := o.tup
  rw [ints_map e] at r
  rw [r.toInts] at q
  exact ⟨a, rfl, q⟩
def fSumT : List D → Option D
  | [d] => (tupInts d).map fun ns => .int ns.sum
  | _ => none
theorem rule_sumT : RuleL K fSumT (rSumT K) := by
  intro cv W σ H F A B env xs ds d Q w dd t o e fin
  match ds, e with
  | [d0], e =>
    obtain ⟨x, rfl, ox⟩ := one_of o
    simp only [fSumT, Option.map_eq_some_iff] at e
    obtain ⟨ns, h1, rfl⟩ := e
    obtain ⟨a, rfl, h2⟩ := tupInts_ok ox h1
    exact ⟨a, ns, rfl, h2, fin_val w dd t fin fz_int⟩
def fMaxT : List D → Option D
  | [d] => (match tupInts d with
    | some (n :: ns) => some (.int (maxI n ns))
    | _ => none)
  | _ => none
def fMinT : List D → Option D
  | [d] => (match tupInts d with
    | some (n :: ns) => some (.int (minI n ns))
    | _ => none)
  | _ => none
theorem maxI_eq {n m : Int} {ns : List Int} (h3 : m ∈ n :: ns) (h4 : ∀ y ∈ n :: ns, y ≤ m) : m = maxI n ns := by
  obtain ⟨g1, g2, g3⟩ := maxI_spec ns n
  have e2 : m ≤ maxI n ns := by
    rcases List.mem_cons.mp h3 with rfl | h3
    · exact g1
    · exact g2 m h3
  have e3 : maxI n ns ≤ m := by
    rcases g3 with g3 | g3
    · rw [g3]; exact h4 n List.mem_cons_self
    · exact h4 _ (List.mem_cons_of_mem _ g3)
  omega
theorem minI_eq {n m : Int} {ns : List Int} (h3 : m ∈ n :: ns) (h4 : ∀ y ∈ n :: ns, m ≤ y) : m = minI n ns := by
  obtain ⟨g1, g2, g3⟩ := minI_spec ns n
  have e2 : minI n ns ≤ m := by
    rcases List.mem_cons.mp h3 with rfl | h3
    · exact g1
    · exact g2 m h3
  have e3 : m ≤ minI n ns := by
    rcases g3 with g3 | g3
    · rw [g3]; exact h4 n List.mem_cons_self
    · exact h4 _ (List.mem_cons_of_mem _ g3)
  omega
theorem rule_maxT : RuleL K fMaxT (rMaxT K) := by
  intro cv W σ H F A B env xs ds d Q w dd t o e fin
  match ds, e with
  | [d0], e =>
    obtain ⟨x, rfl, ox⟩ := one_of o
    simp only [fMaxT] at e
    split at e
    · rename_i n ns h1
      cases e
      obtain ⟨a, rfl, h2⟩ := tupInts_ok ox h1
      exact ⟨a, n :: ns, rfl, h2, by simp, fun m h3 h4 => by rw [maxI_eq h3 h4]; exact fin_val w dd t fin fz_int⟩
    · cases e
theorem rule_minT : RuleL K fMinT (rMinT K) := by
  intro cv W σ H F A B env xs ds d Q w dd t o e fin
  match ds, e with
  | [d0], e =>
    obtain ⟨x, rfl, ox⟩ := one_of o
    simp only [fMinT] at e
    split at e
    · rename_i n ns h1
      cases e
      obtain ⟨a, rfl, h2⟩ := tupInts_ok ox h1
      exact ⟨a, n :: ns, rfl, h2, by simp, fun m h3 h4 => by rw [minI_eq h3 h4]; exact fin_val w dd t fin fz_int⟩
    · cases e
def fSumA : List D → Option D := fOrL fSum fSumT
theorem rule_sumA : RuleL K fSumA (rOrL (rSum K) (rSumT K)) := RuleL.or rule_sum rule_sumT
theorem cr_sumA {X : Cx} (o : OkX X) : CallR X (.builtin "sum") (rOrL (rSum X.K) (rSumT X.K)) := CallR.orr (cr_sum o.calm) (cr_sumT o.calm)
def fMaxA : List D → Option D := fOrL (fI2 fun i j => .int (if j > i then j else i)) (fOrL fMax fMaxT)
def rMaxA (K : PySem.W.Frag) := rOrL (fun xs H Q => ∃ i j, xs = [.int i, .int j] ∧ Q (.int (if j > i then j else i)) H) (rOrL (rMax K) (rMaxT K))
theorem rule_maxA : RuleL K fMaxA (rMaxA K) := RuleL.or rule_max2 (RuleL.or rule_max rule_maxT)
theorem cr_maxA {X : Cx} (o : OkX X) : CallR X (.builtin "max") (rMaxA X.K) := CallR.orr (call_max2 o.calm) (CallR.orr (cr_max o.calm) (cr_maxT o.calm))
def fMinA : List D → Option D := fOrL (fI2 fun i j => .int (if j < i then j else i)) (fOrL fMin fMinT)
def rMinA (K : PySem.W.Frag) := rOrL (fun xs H Q => ∃ i j, xs = [.int i, .int j] ∧ Q (.int (if j < i then j else i)) H) (rOrL (rMin K) (rMinT K))
theorem rule_minA : RuleL K fMinA (rMinA K) := RuleL.or rule_min2 (RuleL.or rule_min rule_minT)
theorem cr_minA {X : Cx} (o : OkX X) : CallR X (.builtin "min") (rMinA X.K) := CallR.orr (call_min2 o.calm) (CallR.orr (cr_min o.calm) (cr_minT o.calm))
def fStr : List D → Option D
  | [.int i] => if decide (i.natAbs.log2 < 1920) then some (.str (toString i)) else none
  | [.str a] => some (.str a)
  | _ => none
def rStr : List V → Hp → VK → Prop := rOrL (fun xs H Q => ∃ i, xs = [.int i] ∧ i.natAbs.log2 < 1920 ∧ Q (.str (toString i)) H) (fun xs H Q => ∃ a, xs = [.str a] ∧ Q (.str a) H)
theorem cr_strA {X : Cx} : CallR X (.type "str") rStr := CallR.orr call_str_int SkE.call_str_str
theorem rule_strA : RuleL K fStr rStr := by
  intro cv W σ H F A B env xs ds d Q w dd t o e fin
  match ds, e with
  | [.int i], e =>
    obtain ⟨x, rfl, ox⟩ := one_of o
    simp only [fStr] at e
    split at e
    · rename_i hc
      cases e
      exact .inl ⟨i, by rw [ox.int], of_decide_eq_true hc, fin_val w dd t fin fz_str⟩
    · cases e
  | [.str a], e =>
    obtain ⟨x, rfl, ox⟩ := one_of o
    cases e
    exact .inr ⟨a, by rw [ox.str], fin_val w dd t fin fz_str⟩
theorem OwBs.length {H : Hp} {F : Addr → Prop} {B : List Addr} : ∀ {xs : List V} {ds : List D}, OwBs K H F B xs ds → xs.length = ds.length
  | [], [], _ => rfl
  | _ :: xs, _ :: ds, h => by simp [OwBs.length h.2]
  | [], _ :: _, h => False.elim h
  | _ :: _, [], h => False.elim h
theorem OwBs.fz {H : Hp} {F : Addr → Prop} {B : List Addr} : ∀ {xs : List V} {ds : List D}, OwBs K H F B xs ds → isFzs ds = true → FzL K H F xs ds
  | [], [], _, _ => by simp [FzL]
  | x :: xs, d :: ds, h, z => by
    simp only [isFzs, Bool.and_eq_true] at z
    simp only [FzL]
    exact ⟨x, xs, rfl, h.1.fzd z.1, OwBs.fz h.2 z.2⟩
  | [], _ :: _, h, _ => False.elim h
  | _ :: _, [], h, _ => False.elim h
end
section
variable {X : Cx} {cv : Nat → Value} {W : WX}
def fTupD : List D → Option D := fun ds => if isFzs ds && decide (ds.length ≤ sizeLine) then some (.tup ds) else none
theorem px_tupD {es : List Expr} {os : SA} {k : Nat} {pos : Pos} (ha : PA X es (sm X.K cv W (rL X.K) os)) : PE X (.Tuple es k pos) (sm X.K cv W (rD X.K) (sApp os fTupD)) := by
  refine (pe_tup ha).imp fun σ H Q h => ?_
  refine sApp_read (r := fun xs H Q => xs.length ≤ sizeLine ∧ ∀ p, H p = none → Q (.ref p) (upd H p (.tup xs))) ?_ h
  intro cv W σ H F A B env xs ds d Q w dd t o e fin
  simp only [fTupD] at e
  split at e
  · rename_i hc
    simp only [Bool.and_eq_true, decide_eq_true_eq] at hc
    cases e
    exact ⟨by rw [o.length]; exact hc.2, fun p hp => Fin.newT hp w dd t fin (o.fz hc.1)⟩
  · cases e
/-- a list display keeps what its items hold -/
def tmps : List Ar → Option (List D)
  | [] => some []
  | .tmp d :: as => (tmps as).map (d :: ·)
  | _ :: _ => none
def sLstD (os : SA) : SE := fun e => (os e).bind fun as e1 => match tmps as with
  | some ds => if decide (ds.length ≤ sizeLine) then .ok (.lst true ds) e1 else .bad
  | none => .bad
theorem tmps_ok {K : PySem.W.Frag} {σ : L2.St} {H : Hp} {F : Addr → Prop} : ∀ {vs : List V} {as : List Ar} {A : List Addr} {ds : List D}, rL K σ H F vs as A → tmps as = some ds → OwL K H F vs ds A
  | [], [], A, ds, p, e => by cases e; exact ⟨rfl, p⟩
  | [], _ :: _, A, ds, p, _ => False.elim p
  | _ :: _, [], A, ds, p, _ => False.elim p
  | v :: vs, .tmp d :: as, A, ds, ⟨A1, A2, e1, p1, p2⟩, e => by
    simp only [tmps, Option.map_eq_some_iff] at e
    obtain ⟨ds', h1, rfl⟩ := e
    simp only [OwL]
    exact ⟨v, vs, A1, A2, rfl, e1, p1, tmps_ok p2 h1⟩
  | v :: vs, .slot i :: as, A, ds, p, e => by cases e
theorem OwL.ext' {K : PySem.W.Frag} {H : Hp} {F : Addr → Prop} {l : List D} {xs : List V} {A : List Addr} {o : HO} {p : Addr} (hp : H p = none) (h : OwL K H F xs l A) : OwL K (upd H p o) F xs l A :=
  OwL.ext (B := []) (Ext.laid hp) (fun _ _ z => by cases z) _ _ _ (fun _ _ z => by cases z) h
/-- a new list with what its items hold -/
theorem Fin.newO {K : PySem.W.Frag} {σ : L2.St} {H : Hp} {F : Addr → Prop} {A B : List Addr} {env : Env} {Q : VK} {xs : List V} {l : List D} {p : Addr} (hp : H p = none) (w : Wl K σ H F env B) (dd : Dis F (A ++ B)) (h : Fin K cv W (rD K) σ H F (A ++ B) Q (.ok (.lst true l) env)) (q : OwL K H F xs l A) : Q (.ref p) (upd H p (.lst xs)) := by
  have np := w.notF hp
  have nb := w.notB hp
  have na : p ∉ A := fun z => by
    obtain ⟨ys, e⟩ := OwL.there _ _ _ q p z
    rw [e] at hp; cases hp
  refine h _ _ F (p :: A) B (Ext.laid hp) (w.laid hp) ?_ ?_ (fun a h => ?_)
  · show Ow K _ _ _ _ _
    simp only [Ow]
    exact ⟨p, xs, A, rfl, upd_same, rfl, q.ext' hp⟩
  · refine ⟨List.nodup_cons.mpr ⟨fun z => ?_, dd.1⟩, fun a h => ?_⟩
    · exact (List.mem_append.mp z).elim na nb
    · rcases List.mem_cons.mp h with rfl | h
      · exact np
      · exact dd.2 a h
  · rcases List.mem_cons.mp h with rfl | h
    · exact .inr hp
    · exact .inl h
theorem px_lstD {es : List Expr} {os : SA} {pos : Pos} (ha : PA X es (sm X.K cv W (rL X.K) os)) : PE X (.List es pos) (sm X.K cv W (rD X.K) (sLstD os)) := by
  refine (pe_lst ha).imp fun σ H Q h => ?_
  refine (sm.run0 (P := rL X.K) (m := os) h).mono fun v H1 ⟨F2, env2, a, A2, B2, w2, p2, d2, f2⟩ => ?_
  split at f2
  · rename_i ds q1
    split at f2
    · rename_i hc
      have o := tmps_ok p2 q1
      exact ⟨by rw [o.length]; exact of_decide_eq_true hc, fun p hp => Fin.newO hp w2 d2 f2 o⟩
    · exact False.elim f2
  · exact False.elim f2
end
end PV
set_option Elab.async false
set_option linter.all false
set_option maxRecDepth 100000
set_option maxHeartbeats 4000000
namespace PV
open PySem PySem.Spec PyProof.Rows L2
variable [Tabs]

/-! ## statements -/
inductive RS where
  | nx (e : Env) | rt (d : D) (e : Env) | bk (e : Env) | ct (e : Env) | exc (c : Nat) (e : Env) | bad
abbrev SS := Env → RS
def R.toS {α : Type} (r : R α) (f : α → Env → RS) : RS := match r with
  | .ok a e => f a e
  | .exc c e => .exc c e
  | .bad => .bad
def RS.thn (r : RS) (f : SS) : RS := match r with
  | .nx e => f e
  | r => r
/-- the slots that no code sets -/
def Kp (kp : Nat → Bool) (σ σ' : L2.St) : Prop := σ'.length = σ.length ∧ ∀ j, kp j = true → σ'[j]? = σ[j]?
section
variable (K : PySem.W.Frag) (cv : Nat → Value) (W : WX) (kp : Nat → Bool)
def FinS (D : Ends) (σ : L2.St) (H : Hp) (F : Addr → Prop) (B : List Addr) : RS → Prop
  | .nx e' => ∀ σ' H' F' B', Kp kp σ σ' → Ext B H F H' F' → Wl K σ' H' F' e' B' → Sub B' B H → D.nx σ' H'
  | .bk e' => ∀ σ' H' F' B', Kp kp σ σ' → Ext B H F H' F' → Wl K σ' H' F' e' B' → Sub B' B H → D.bk σ' H'
  | .ct e' => ∀ σ' H' F' B', Kp kp σ σ' → Ext B H F H' F' → Wl K σ' H' F' e' B' → Sub B' B H → D.ct σ' H'
  | .rt d e' => ∀ v σ' H' F' A B', Kp kp σ σ' → Ext B H F H' F' → Wl K σ' H' F' e' B' → Ow K H' F' v d A → Dis F' (A ++ B') → Sub (A ++ B') B H → D.rt v H'
  | .exc c e' => ∀ σ' H' F' B', Kp kp σ σ' → Ext B H F H' F' → Wl K σ' H' F' e' B' → Sub B' B H → W (cv c) none σ' H'
  | .bad => False
def ss (m : SS) : TS := fun D σ H => ∃ F env B, Wl K σ H F env B ∧ FinS K cv W kp D σ H F B (m env)
end
section
variable {K : PySem.W.Frag} {cv : Nat → Value} {W : WX} {kp : Nat → Bool} {D : Ends} {σ σ1 : L2.St} {H H1 : Hp} {F F1 : Addr → Prop} {B B1 A : List Addr} {env : Env}
theorem Kp.refl : Kp kp σ σ := ⟨rfl, fun _ _ => rfl⟩
theorem Kp.trans {σ2 : L2.St} (a : Kp kp σ σ1) (b : Kp kp σ1 σ2) : Kp kp σ σ2 := ⟨b.1.trans a.1, fun j h => (b.2 j h).trans (a.2 j h)⟩
theorem Kp.set {i : Nat} {v : Option V} (h : kp i = false) : Kp kp σ (σ.set i v) := ⟨by simp, fun j hj => by
  rw [List.getElem?_set_ne]
  intro e
  rw [e, hj] at h
  cases h⟩
theorem FinS.step {r : RS} (k : Kp kp σ σ1) (x : Ext B H F H1 F1) (s : Sub B1 B H) (h : FinS K cv W kp D σ H F B r) : FinS K cv W kp D σ1 H1 F1 B1 r := by
  cases r with
  | nx e' => exact fun σ' H' F' B' k' y w t => h σ' H' F' B' (k.trans k') (x.trans y s) w (s.trans t x.fr)
  | bk e' => exact fun σ' H' F' B' k' y w t => h σ' H' F' B' (k.trans k') (x.trans y s) w (s.trans t x.fr)
  | ct e' => exact fun σ' H' F' B' k' y w t => h σ' H' F' B' (k.trans k') (x.trans y s) w (s.trans t x.fr)
  | rt d e' => exact fun v σ' H' F' A B' k' y w o dd t => h v σ' H' F' A B' (k.trans k') (x.trans y s) w o dd (s.trans t x.fr)
  | exc c e' => exact fun σ' H' F' B' k' y w t => h σ' H' F' B' (k.trans k') (x.trans y s) w (s.trans t x.fr)
  | bad => exact h
theorem ss.step {m : SS} {e' : Env} (k : Kp kp σ σ1) (x : Ext B H F H1 F1) (s : Sub B1 B H) (w : Wl K σ1 H1 F1 e' B1) (h : FinS K cv W kp D σ H F B (m e')) : ss K cv W kp m D σ1 H1 := ⟨F1, e', B1, w, h.step k x s⟩
/-- one after another -/
def sSeq (a b : SS) : SS := fun e => (a e).thn b
theorem sSeq_read {a b : SS} (h : ss K cv W kp (sSeq a b) D σ H) : tSeq (ss K cv W kp a) (ss K cv W kp b) D σ H := by
  obtain ⟨F, env, B, w, f⟩ := h
  refine ⟨F, env, B, w, ?_⟩
  simp only [sSeq] at f
  cases e : a env with
  | nx e' =>
    rw [e] at f
    exact fun σ' H' F' B' k x w' s => ss.step k x s w' f
  | bk e' => rw [e] at f; exact f
  | ct e' => rw [e] at f; exact f
  | rt d e' => rw [e] at f; exact f
  | exc c e' => rw [e] at f; exact f
  | bad => rw [e] at f; exact f
/-- an expression first -/
theorem sm.runS {α ν : Type} {P : Rp α ν} {m : SM α} {g : α → Env → RS} (h : ss K cv W kp (fun e => (m e).toS g) D σ H) :
    sm K cv W P m σ H fun v H1 => ∃ F1 env1 a A1 B1, Wl K σ H1 F1 env1 B1 ∧ P σ H1 F1 v a A1 ∧ Dis F1 (A1 ++ B1) ∧ FinS K cv W kp D σ H1 F1 (A1 ++ B1) (g a env1) := by
  obtain ⟨F, env, B, w, f⟩ := h
  refine ⟨F, env, B, w, ?_⟩
  dsimp only at f
  cases e : m env with
  | bad => rw [e] at f; exact f
  | exc c e' => rw [e] at f; exact fun H' F' B' x w' s => f σ H' F' B' Kp.refl x w' s
  | ok a e' =>
    rw [e] at f
    exact fun v H1 F1 A1 B1 x w1 p d s => ⟨F1, e', a, A1, B1, w1, p, d, FinS.step Kp.refl x s f⟩
/-- .. while something is held -/
theorem sm.runSh {α ν : Type} {P : Rp α ν} {Pr : Hd} {m : SM α} {g : α → Env → RS} (st : StH Pr) (w : Wl K σ H F env B) (hp : Pr H F A) (d : Dis F (A ++ B)) (h : FinS K cv W kp D σ H F (A ++ B) ((m env).toS g)) :
    sm K cv W P m σ H fun v H1 => ∃ F1 env1 a A1 B1, Wl K σ H1 F1 env1 B1 ∧ Pr H1 F1 A ∧ P σ H1 F1 v a A1 ∧ Dis F1 (A ++ (A1 ++ B1)) ∧ FinS K cv W kp D σ H1 F1 (A ++ (A1 ++ B1)) (g a env1) := by
  refine ⟨F, env, B, w, ?_⟩
  cases e : m env with
  | bad => rw [e] at h; exact h
  | exc c e' =>
    rw [e] at h
    exact fun H' F' B' x w' s => h σ H' F' B' Kp.refl (x.wk fun a ha => List.mem_append_right _ ha) w' fun a ha => (s a ha).imp (List.mem_append_right _) id
  | ok a e' =>
    rw [e] at h
    intro v H1 F1 A1 B1 x w1 p d1 s1
    have nA : ∀ c ∈ A, c ∉ A1 ++ B1 := fun c hc z => (s1 c z).elim (d.apart c hc) (st.there hp c hc)
    refine ⟨F1, e', a, A1, B1, w1, st.ext hp x (fun c hc => d.apart c hc) w.dis.notF, p, ?_, ?_⟩
    · refine Dis.app ⟨d.left.1, fun c hc z => ?_⟩ d1 nA
      rcases x.new c z with q | q | q
      · exact d.left.2 c hc q
      · exact d.apart c hc q
      · exact st.there hp c hc q
    · refine FinS.step Kp.refl (x.wk fun a ha => List.mem_append_right _ ha) (fun c hc => ?_) h
      rcases List.mem_append.mp hc with hc | hc
      · exact .inl (List.mem_append_left _ hc)
      · exact (s1 c hc).imp (List.mem_append_right _) id
end
section
variable {X : Cx} {cv : Nat → Value} {W : WX} {kp : Nat → Bool}
def sSkip : SS := fun e => .nx e
theorem sSkip_read {K : PySem.W.Frag} {D : Ends} {σ : L2.St} {H : Hp} (h : ss K cv W kp sSkip D σ H) : D.nx σ H := by
  obtain ⟨F, env, B, w, f⟩ := h
  exact f σ H F B Kp.refl Ext.refl w Sub.refl
theorem _root_.L2.PSs.imp {X : Cx} {e : List Stmt} {t t' : TS} (h : PSs X e t) (i : ∀ σ H Q, t' σ H Q → t σ H Q) : PSs X e t' := ⟨fun pins s σ H Q I hw => h.run pins s σ H Q I (i Q σ H hw)⟩
theorem qss_nil : PSs X [] (ss X.K cv W kp sSkip) := pss_nil.imp fun D σ H => sSkip_read
theorem qs_pass {pos : Pos} : PS X (.Pass pos) (ss X.K cv W kp sSkip) := ps_pass.imp fun D σ H => sSkip_read
theorem qss_cons {st : Stmt} {rest : List Stmt} {a b : SS} (h1 : PS X st (ss X.K cv W kp a)) (h2 : PSs X rest (ss X.K cv W kp b)) : PSs X (st :: rest) (ss X.K cv W kp (sSeq a b)) :=
  (pss_cons h1 h2).imp fun D σ H => sSeq_read
theorem qss_one {st : Stmt} {a : SS} (h1 : PS X st (ss X.K cv W kp a)) : PSs X [st] (ss X.K cv W kp a) := pss_one h1
def sBrk : SS := fun e => .bk e
def sCnt : SS := fun e => .ct e
theorem qs_break {pos : Pos} : PS X (.Break pos) (ss X.K cv W kp sBrk) := ps_break.imp fun D σ H ⟨F, env, B, w, f⟩ => f σ H F B Kp.refl Ext.refl w Sub.refl
theorem qs_continue {pos : Pos} : PS X (.Continue pos) (ss X.K cv W kp sCnt) := ps_continue.imp fun D σ H ⟨F, env, B, w, f⟩ => f σ H F B Kp.refl Ext.refl w Sub.refl
def sRet (s : SE) : SS := fun e => (s e).toS fun d e1 => .rt d e1
theorem qs_ret {e : Expr} {s : SE} {pos : Pos} (he : PE X e (sm X.K cv W (rD X.K) s)) : PS X (.Return (some e) pos) (ss X.K cv W kp (sRet s)) :=
  (ps_ret he).imp fun D σ H h => (sm.runS (P := rD X.K) (m := s) h).mono fun v H1 ⟨F1, env1, a, A1, B1, w, p, d, f⟩ => f v σ H1 F1 A1 B1 Kp.refl Ext.refl w p d Sub.refl
def sRetN : SS := fun e => .rt .non e
theorem qs_retN {pos : Pos} : PS X (.Return none pos) (ss X.K cv W kp sRetN) :=
  ps_retN.imp fun D σ H ⟨F, env, B, w, f⟩ => f .non σ H F [] B Kp.refl Ext.refl w (show Ow _ _ _ _ _ _ by simp [Ow]) w.dis Sub.refl
def sIf (c : SM Bool) (a b : SS) : SS := fun e => (c e).toS fun x e1 => if x = true then a e1 else b e1
theorem qs_if {c : Expr} {a b : List Stmt} {m : SM Bool} {t u : SS} {pos : Pos} (hc : PT X c (sm X.K cv W rB m)) (ha : PSs X a (ss X.K cv W kp t)) (hb : PSs X b (ss X.K cv W kp u)) : PS X (.If c a b pos) (ss X.K cv W kp (sIf m t u)) :=
  (ps_if hc ha hb).imp fun D σ H h => (sm.runS (P := rB) (m := m) h).mono fun v H1 ⟨F2, env2, x, A2, B2, w2, p2, d2, f2⟩ => by
    obtain ⟨rfl, rfl⟩ := p2
    cases v with
    | true => exact ⟨F2, env2, B2, w2, f2⟩
    | false => exact ⟨F2, env2, B2, w2, f2⟩
def sDrop (s : SE) : SS := fun e => (s e).toS fun _ e1 => .nx e1
theorem qs_expr {e : Expr} {s : SE} {pos : Pos} (he : PE X e (sm X.K cv W (rD X.K) s)) (hs : swapsWith e none pos.line X.env = pure false) : PS X (.Expr e pos) (ss X.K cv W kp (sDrop s)) :=
  (ps_expr he hs).imp fun D σ H h => (sm.runS (P := rD X.K) (m := s) h).mono fun v H1 ⟨F1, env1, a, A1, B1, w, p, d, f⟩ =>
    f σ H1 F1 B1 Kp.refl Ext.refl w fun a h => .inl (List.mem_append_right _ h)
/-! ### name = e -/
theorem Wl.asg {K : PySem.W.Frag} {σ : L2.St} {H : Hp} {F : Addr → Prop} {env : Env} {A B : List Addr} {v : V} {d : D} {i : Nat} (w : Wl K σ H F env B) (o : Ow K H F v d A) (dd : Dis F (A ++ B)) (hi : i < env.length) :
    ∃ B', Wl K (σ.set i (some v)) H F (env.set i (some d)) B' ∧ ∀ a ∈ B', a ∈ A ++ B := by
  obtain ⟨B', h1, h2, h3⟩ := EnvR.asg o w.er hi dd
  exact ⟨B', ⟨h1, h2, w.tr, w.tab⟩, h3⟩
def put (i : Nat) (d : D) (e : Env) : RS := if i < e.length then .nx (e.set i (some d)) else .bad
def sSet (i : Nat) (s : SE) : SS := fun e => (s e).toS fun d e1 => put i d e1
theorem put_read {K : PySem.W.Frag} {σ : L2.St} {H : Hp} {F : Addr → Prop} {env : Env} {A B : List Addr} {v : V} {d : D} {i : Nat} {D' : Ends} (hk : kp i = false) (w : Wl K σ H F env B) (o : Ow K H F v d A) (dd : Dis F (A ++ B)) (f : FinS K cv W kp D' σ H F (A ++ B) (put i d env)) : D'.nx (σ.set i (some v)) H := by
  simp only [put] at f
  split at f
  · rename_i hi
    obtain ⟨B', w', s⟩ := w.asg o dd hi
    exact f _ H F B' (Kp.set hk) Ext.refl w' fun a h => .inl (s a h)
  · exact False.elim f
theorem qs_set {i : Nat} {x : Str} {e : Expr} {s : SE} {pos' pos : Pos} (hk : kp i = false) (hN : X.N.Nodup) (hi : X.N[i]? = some x) (hx : Loc X.env.scope x) (he : PE X e (sm X.K cv W (rD X.K) s)) (hs : swapsWith e (some (.Name x pos')) pos.line X.env = pure false) (hf : X.fn x = true ∨ X.env.scope.names.lookup x = some .local) :
    PS X (.Assign [.Name x pos'] e pos) (ss X.K cv W kp (sSet i s)) :=
  (ps_set hN hi hx he hs hf).imp fun D σ H h => (sm.runS (P := rD X.K) (m := s) h).mono fun v H1 ⟨F1, env1, a, A1, B1, w, p, d, f⟩ => put_read hk w p d f
/-- name op= e: ints and such -/
def sAug (i : Nat) (s : SE) (f : D → D → Option D) : SS := fun e => (s e).toS fun y e1 => match e1[i]? with
  | some (some x) => (match f x y.fz with
    | some d => put i d e1
    | none => .bad)
  | _ => .bad
/-! ### targets -/
abbrev GT := D → Env → Option Env
abbrev GTs := List D → Env → Option Env
def gT (K : PySem.W.Frag) (kp : Nat → Bool) (g : GT) : TG := fun v σ H Q => ∃ F env d A B env', Wl K σ H F env B ∧ Ow K H F v d A ∧ Dis F (A ++ B) ∧ g d env = some env' ∧
  ∀ σ' H' F' B', Kp kp σ σ' → Ext (A ++ B) H F H' F' → Wl K σ' H' F' env' B' → Sub B' (A ++ B) H → Q σ' H'
def gTs (K : PySem.W.Frag) (kp : Nat → Bool) (g : GTs) : TGs := fun vs σ H Q => ∃ F env ds B env', Wl K σ H F env B ∧ FzL K H F vs ds ∧ g ds env = some env' ∧
  ∀ σ' H' F' B', Kp kp σ σ' → Ext B H F H' F' → Wl K σ' H' F' env' B' → Sub B' B H → Q σ' H'
theorem _root_.L2.PG.imp {X : Cx} {e : Expr} {t t' : TG} (h : PG X e t) (i : ∀ v σ H Q, t' v σ H Q → t v σ H Q) : PG X e t' := ⟨fun pins s σ H v u Q I r hw => h.run pins s σ H v u Q I r (i v σ H Q hw)⟩
theorem _root_.L2.PGs.imp {X : Cx} {e : List Expr} {t t' : TGs} (h : PGs X e t) (i : ∀ v σ H Q, t' v σ H Q → t v σ H Q) : PGs X e t' := ⟨fun pins s σ H v u Q I r hw => h.run pins s σ H v u Q I r (i v σ H Q hw)⟩
def tgName (i : Nat) : GT := fun d e => if i < e.length then some (e.set i (some d)) else none
theorem qg_name {i : Nat} {x : Str} {pos : Pos} (hk : kp i = false) (hN : X.N.Nodup) (hi : X.N[i]? = some x) (hx : Loc X.env.scope x) (hf : X.fn x = true ∨ X.env.scope.names.lookup x = some .local) : PG X (.Name x pos) (gT X.K kp (tgName i)) :=
  (pg_name hN hi hx hf).imp fun v σ H Q ⟨F, env, d, A, B, env', w, o, dd, e, h⟩ => by
    simp only [tgName] at e
    split at e
    · rename_i hi
      cases e
      obtain ⟨B', w', s⟩ := w.asg o dd hi
      exact h _ H F B' (Kp.set hk) Ext.refl w' fun a h => .inl (s a h)
    · cases e
def tgTup (n : Nat) (g : GTs) : GT := fun d e => match d with
  | .tup l => if l.length = n then g l e else none
  | _ => none
def tgNil : GTs := fun ds e => match ds with
  | [] => some e
  | _ => none
def tgCons (g : GT) (gs : GTs) : GTs := fun ds e => match ds with
  | d :: ds => (match g d e with
    | some e1 => gs ds e1
    | none => none)
  | _ => none
theorem qgs_nil : PGs X [] (gTs X.K kp tgNil) := pgs_nil.imp fun v σ H Q ⟨F, env, ds, B, env', w, o, e, h⟩ => by
  cases ds with
  | nil =>
    simp only [FzL] at o
    cases e
    exact ⟨o, h σ H F B Kp.refl Ext.refl w Sub.refl⟩
  | cons d ds => cases e
theorem qgs_cons {e : Expr} {es : List Expr} {g : GT} {gs : GTs} (h1 : PG X e (gT X.K kp g)) (h2 : PGs X es (gTs X.K kp gs)) (hs : (assignEach (e :: es) X.env).map (·.2) = assign e X.env :: (assignEach es X.env).map (·.2)) : PGs X (e :: es) (gTs X.K kp (tgCons g gs)) :=
  (pgs_cons h1 h2 hs).imp fun v σ H Q ⟨F, env, ds, B, env', w, o, e, h⟩ => by
    cases ds with
    | nil => cases e
    | cons d ds =>
      simp only [FzL] at o
      obtain ⟨x, xs, rfl, o1, o2⟩ := o
      simp only [tgCons] at e
      split at e
      · rename_i e1 q
        refine ⟨x, xs, rfl, F, env, d, [], B, e1, w, o1.ow, w.dis, q, fun σ' H' F' B' k y w' s => ?_⟩
        exact ⟨F', e1, ds, B', env', w', FzL.ext y w.dis.notF _ _ o2, e, fun σ2 H2 F2 B2 k2 y2 w2 s2 => h σ2 H2 F2 B2 (k.trans k2) (y.trans y2 s) w2 (s.trans s2 y.fr)⟩
      · cases e
theorem qg_tup {es : List Expr} {k n : Nat} {gs : GTs} {pos : Pos} (hc : X.calm = true) (h : PGs X es (gTs X.K kp gs)) (hn : (assignEach es X.env).length = n) (hst : (assignEach es X.env).findIdx? (·.1) = none) : PG X (.Tuple es k pos) (gT X.K kp (tgTup n gs)) :=
  (pg_tup hc h hn hst).imp fun v σ H Q ⟨F, env, d, A, B, env', w, o, dd, e, h⟩ => by
    cases d <;> try (cases e; done)
    rename_i l
    simp only [tgTup] at e
    split at e
    · rename_i hl
      simp only [Ow] at o
      obtain ⟨rfl, a, xs, rfl, q, r⟩ := o
      exact ⟨a, xs, rfl, q, by rw [r.length, hl], F, env, l, B, env', w, r, e, fun σ' H' F' B' k y w' s => h σ' H' F' B' k y w' s⟩
    · cases e
/-- target = e -/
def sAsg (s : SE) (g : GT) : SS := fun e => (s e).toS fun d e1 => match g d e1 with
  | some e2 => .nx e2
  | none => .bad
theorem qs_asg {tg e : Expr} {s : SE} {g : GT} {pos : Pos} (he : PE X e (sm X.K cv W (rD X.K) s)) (hg : PG X tg (gT X.K kp g)) (hs : swapsWithSole [tg] e pos.line X.env = pure false) (hw : swappedStores [tg] e X.env = pure none)
    (h1 : (assignEach [tg] X.env).map (·.2) = [assign tg X.env]) : PS X (.Assign [tg] e pos) (ss X.K cv W kp (sAsg s g)) :=
  (ps_asg he hg hs hw h1).imp fun D σ H h => (sm.runS (P := rD X.K) (m := s) h).mono fun v H1 ⟨F1, env1, a, A1, B1, w, p, d, f⟩ => by
    split at f
    · rename_i e2 q
      exact ⟨F1, env1, a, A1, B1, e2, w, p, d, q, fun σ' H' F' B' k y w' s => f σ' H' F' B' k y w' s⟩
    · exact False.elim f
/-- a, b = x, y -/
def sPar (i j : Nat) (os : SA) : SS := fun e => (os e).toS fun as e1 => match tmps as with
  | some [x, y] => if i < e1.length ∧ j < e1.length then .nx ((e1.set i (some x)).set j (some y)) else .bad
  | _ => .bad
theorem qs_par {i j : Nat} {x y : Str} {a b : Expr} {os : SA} {px py pt : Pos} {kt k2 pt2} {pos : Pos} (hki : kp i = false) (hkj : kp j = false) (hc : X.calm = true) (hN : X.N.Nodup) (hi : X.N[i]? = some x) (hj : X.N[j]? = some y) (hij : i ≠ j)
    (hx : X.env.scope.names.lookup x = some .local) (hy : X.env.scope.names.lookup y = some .local) (ha : PA X [a, b] (sm X.K cv W (rL X.K) os))
    (hw : swappedStores [.Tuple [.Name x px, .Name y py] kt pt] (.Tuple [a, b] k2 pt2) X.env = pure (some [x, y]))
    (hs : swapsWithSole [.Tuple [.Name x px, .Name y py] kt pt] (.Tuple [a, b] k2 pt2) pos.line X.env = pure false) :
    PS X (.Assign [.Tuple [.Name x px, .Name y py] kt pt] (.Tuple [a, b] k2 pt2) pos) (ss X.K cv W kp (sPar i j os)) :=
  (ps_par hc hN hi hj hij hx hy ha hw hs).imp fun D σ H h => (sm.runS (P := rL X.K) (m := os) h).mono fun v H1 ⟨F1, env1, as, A1, B1, w, p, d, f⟩ => by
    split at f
    · rename_i dx dy q
      split at f
      · rename_i hl
        have o := tmps_ok p q
        simp only [OwL] at o
        obtain ⟨vx, xs1, Ax, A2, rfl, rfl, ox, vy, xs2, Ay, A3, rfl, rfl, oy, rfl, rfl⟩ := o
        refine ⟨vx, vy, rfl, ?_⟩
        have d1 : Dis F1 (Ax ++ (Ay ++ B1)) := by simpa using d
        obtain ⟨B2, w2, s2⟩ := w.asg (i := i) ox (Dis.app d1.left d1.right.right fun c hc z => d1.apart c hc (List.mem_append_right _ z)) hl.1
        have d2 : Dis F1 (Ay ++ B2) := Dis.app d1.right.left w2.dis fun c hc z => (List.mem_append.mp (s2 c z)).elim (fun z => d1.apart c z (List.mem_append_left _ hc)) (d1.right.apart c hc)
        obtain ⟨B3, w3, s3⟩ := w2.asg (i := j) oy d2 (by simpa using hl.2)
        refine f _ H1 F1 B3 ((Kp.set hki).trans (Kp.set hkj)) Ext.refl w3 fun c hc => .inl ?_
        rcases List.mem_append.mp (s3 c hc) with z | z
        · simp [z]
        · rcases List.mem_append.mp (s2 c z) with z | z <;> simp [z]
      · exact False.elim f
    · exact False.elim f
end
end PV
set_option Elab.async false
set_option linter.all false
set_option maxRecDepth 100000
set_option maxHeartbeats 4000000
namespace PV
open PySem PySem.Spec PyProof.Rows L2
variable [Tabs]

/-! ## defs -/
inductive RF where
  | ok (d : D) (outs : Env) | exc (c : Nat) (outs : Env) | bad
abbrev FnD := List D → RF
def FinF (K : PySem.W.Frag) (cv : Nat → Value) (vs : List V) (H : Hp) (F : Addr → Prop) (B : List Addr) (Q : VK) (E : XK) : RF → Prop
  | .ok d outs => ∀ v H' F' A B', Ext B H F H' F' → EnvR K H' F' (vs.map some) outs B' → Ow K H' F' v d A → Dis F' (A ++ B') → (∀ a, F' a → H' a ≠ none) → Sub (A ++ B') B H → Q v H'
  | .exc c outs => ∀ H' F' B', Ext B H F H' F' → EnvR K H' F' (vs.map some) outs B' → Dis F' B' → (∀ a, F' a → H' a ≠ none) → Sub B' B H → E (cv c) none H'
  | .bad => False
def spF (K : PySem.W.Frag) (cv : Nat → Value) (n : Nat) (f : FnD) : Sp := fun vs H Q E => vs.length = n ∧ ∃ F ds B, OwL K H F vs ds B ∧ Dis F B ∧ (∀ a, F a → H a ≠ none) ∧ (∀ P, Tabs.T P → TabK H P) ∧ FinF K cv vs H F B Q E (f ds)
/-- what the parameters' slots hold at the end, where no code sets them -/
def outs (kp : Nat → Bool) : Nat → Nat → Env → Env
  | _, 0, _ => []
  | j, n + 1, [] => none :: outs kp (j + 1) n []
  | j, n + 1, x :: e => (if kp j then x else none) :: outs kp (j + 1) n e
theorem outs_ok {K : PySem.W.Frag} {kp : Nat → Bool} {H : Hp} {F : Addr → Prop} : ∀ (vs : List V) (j : Nat) (σ : L2.St) (e : Env) (B : List Addr), EnvR K H F σ e B → (∀ i, i < vs.length → kp (j + i) = true → σ[i]? = some vs[i]?) →
    ∃ B', EnvR K H F (vs.map some) (outs kp j vs.length e) B' ∧ B'.Sublist B
  | [], j, σ, e, B, h, hk => ⟨[], by simp [outs, EnvR], List.nil_sublist _⟩
  | v :: vs, j, σ, [], B, h, hk => by
    simp only [EnvR] at h
    obtain ⟨rfl, rfl⟩ := h
    obtain ⟨B', h1, h2⟩ := outs_ok vs (j + 1) [] [] [] (by simp [EnvR]) fun i hi hki => by
      have := hk (i + 1) (by simpa using hi) (by rw [← hki]; congr 1; omega)
      simp at this
    refine ⟨B', ?_, h2⟩
    simp only [List.length_cons, outs, List.map_cons, EnvR]
    exact ⟨_, _, rfl, h1⟩
  | v :: vs, j, σ, none :: e, B, h, hk => by
    simp only [EnvR] at h
    obtain ⟨s, σ', rfl, r⟩ := h
    obtain ⟨B', h1, h2⟩ := outs_ok vs (j + 1) σ' e B r fun i hi hki => by
      have := hk (i + 1) (by simpa using hi) (by rw [← hki]; congr 1; omega)
      simpa using this
    refine ⟨B', ?_, h2⟩
    simp only [List.length_cons, outs, List.map_cons, ite_self, EnvR]
    exact ⟨_, _, rfl, h1⟩
  | v :: vs, j, σ, some d :: e, B, h, hk => by
    simp only [EnvR] at h
    obtain ⟨w, σ', A, B1, rfl, rfl, o, r⟩ := h
    obtain ⟨B', h1, h2⟩ := outs_ok vs (j + 1) σ' e B1 r fun i hi hki => by
      have := hk (i + 1) (by simpa using hi) (by rw [← hki]; congr 1; omega)
      simpa using this
    simp only [List.length_cons, outs, List.map_cons]
    cases q : kp j with
    | false =>
      refine ⟨B', ?_, h2.trans (List.sublist_append_right ..)⟩
      simp only [Bool.false_eq_true, if_false, EnvR]
      exact ⟨_, _, rfl, h1⟩
    | true =>
      have e0 := hk 0 (by simp) (by simpa using q)
      simp at e0
      subst e0
      refine ⟨A ++ B', ?_, h2.append_left A⟩
      simp only [if_true, EnvR]
      exact ⟨_, _, A, B', rfl, rfl, o, h1⟩
/-- a def's meaning: n parameters, N names -/
def RS.toF (kp : Nat → Bool) (n : Nat) : RS → RF
  | .rt d e => .ok d (outs kp 0 n e)
  | .nx e => .ok .non (outs kp 0 n e)
  | .exc c e => .exc c (outs kp 0 n e)
  | _ => .bad
def mkF (n N : Nat) (kp : Nat → Bool) (m : SS) : FnD := fun ds => if ds.length = n then (m (ds.map some ++ List.replicate (N - n) none)).toF kp n else .bad
theorem envR_start {K : PySem.W.Frag} {H : Hp} {F : Addr → Prop} : ∀ (vs : List V) (ds : List D) (B : List Addr) (m : Nat), OwL K H F vs ds B → EnvR K H F (vs.map some ++ List.replicate m none) (ds.map some ++ List.replicate m none) B
  | vs, [], B, m, h => by
    simp only [OwL] at h
    rw [h.1, h.2]
    induction m with
    | zero => simp [EnvR]
    | succ m ih =>
      simp only [List.map_nil, List.nil_append, List.replicate_succ, EnvR] at ih ⊢
      exact ⟨_, _, rfl, ih⟩
  | vs, d :: ds, B, m, h => by
    simp only [OwL] at h
    obtain ⟨x, xs, A1, A2, rfl, rfl, h1, h2⟩ := h
    simp only [List.map_cons, List.cons_append, EnvR]
    exact ⟨x, _, A1, A2, rfl, rfl, h1, envR_start xs ds A2 m h2⟩
section
variable {P : Program} {w : World} {K : PySem.W.Frag} {mg : Str → Option Value} {base : Heap} {cv : Nat → Value}
theorem kept_start {kp : Nat → Bool} {N : List Str} {vs : List V} {σ' : L2.St} (k : Kp kp (L2.start N vs) σ') : ∀ i, i < vs.length → kp (0 + i) = true → σ'[i]? = some vs[i]? := fun i hi hk => by
  rw [k.2 i (by simpa using hk)]
  unfold L2.start
  rw [List.getElem?_append_left (by simpa using hi)]
  simp [hi]
theorem okXN {CX : CXT} {x qual : Str} {st : Stmt} {f : Addr} {fd : FuncData} {N ps : List Str} {k : Nat} {sp : Sp} (F : Fun K x qual st f fd) (S : FnScope N ps (defScope st)) (len : ∀ vs H Q E, sp vs H Q E → vs.length = ps.length)
    (hbody : ∀ (cdv : Value) (A : Around) (outer : List PySem.Env) (s : Shared) (H : Hp) (vs : List V) (Q : VK) (E : XK), Room k (A.deeper (envOfC qual (defScope st) s.heap.objs.size f cdv)) → sp vs H Q E →
      ∃ t, PSs (cxOf CX P w K mg base N qual (defScope st) f cdv A outer s H E) (defBody st) t ∧ t { nx := fun _ H' => Q .non H', rt := Q } (L2.start N vs) H) : FnOk P w K mg base CX (k + 1) f fd ps sp := by
  obtain ⟨oc, od, kV, doc, pm, an, cdv, ct, osl, rfl, lk, hcd⟩ := F.ex
  exact fn_of lk hcd S len fun A outer s H vs Q E hr hsp => hbody cdv A outer s H vs Q E hr hsp
theorem fn_ok {x qual : Str} {st : Stmt} {f : Addr} {fd : FuncData} {N ps : List Str} {k : Nat} {kp : Nat → Bool} {m : SS} (F : Fun K x qual st f fd) (S : FnScope N ps (defScope st))
    (hbody : ∀ (cdv : Value) (A : Around) (outer : List PySem.Env) (s : Shared) (H : Hp) (E : XK), Room k (A.deeper (envOfC qual (defScope st) s.heap.objs.size f cdv)) →
      L2N.Takes (cxOf (L2N.CX P w) P w K mg base N qual (defScope st) f cdv A outer s H E) (fun cls d _ H => E cls d H) →
      PassesOwn (model P w) (A.deeper (envOfC qual (defScope st) s.heap.objs.size f cdv)) (envOfC qual (defScope st) s.heap.objs.size f cdv) (cxOf (L2N.CX P w) P w K mg base N qual (defScope st) f cdv A outer s H E).xe →
      PSs (cxOf (L2N.CX P w) P w K mg base N qual (defScope st) f cdv A outer s H E) (defBody st) (ss K cv (fun cls d _ H => E cls d H) kp m)) :
    FnOk P w K mg base (L2N.CX P w) (k + 1) f fd ps (spF K cv ps.length (mkF ps.length N.length kp m)) := by
  refine okXN F S (fun vs H Q E h => h.1) fun cdv A outer s H vs Q E hr hsp => ?_
  have tk := L2N.takes_of (X := cxOf (L2N.CX P w) P w K mg base N qual (defScope st) f cdv A outer s H E) (E := E) rfl rfl rfl rfl
  have pa := passes_of (X := cxOf (L2N.CX P w) P w K mg base N qual (defScope st) f cdv A outer s H E) rfl
  refine ⟨_, hbody cdv A outer s H E hr tk pa, ?_⟩
  obtain ⟨hl, F0, ds, B, o, dd, tr, tab, fin⟩ := hsp
  have hl2 : ds.length = ps.length := by rw [← o.length, hl]
  have hlen : vs.length ≤ N.length := by
    have := congrArg List.length S.pre
    rw [List.length_take] at this
    omega
  simp only [mkF, hl2, if_true] at fin
  refine ⟨F0, ds.map some ++ List.replicate (N.length - ps.length) none, B, ⟨?_, dd, tr, tab⟩, ?_⟩
  · unfold L2.start
    rw [hl]
    exact envR_start vs ds B _ o
  · cases q : m (ds.map some ++ List.replicate (N.length - ps.length) none) with
    | nx e' =>
      rw [q] at fin
      intro σ' H' F' B' k x w' s'
      obtain ⟨B2, h1, h2⟩ := outs_ok (kp := kp) vs 0 σ' e' B' w'.er (kept_start k)
      rw [hl] at h1
      exact fin .non H' F' [] B2 x h1 (by simp [Ow]) ⟨w'.dis.1.sublist h2, fun a h => w'.dis.2 a (h2.subset h)⟩ w'.tr fun a h => s' a (h2.subset h)
    | rt d e' =>
      rw [q] at fin
      intro v σ' H' F' A2 B' k x w' o2 d2 s'
      obtain ⟨B2, h1, h2⟩ := outs_ok (kp := kp) vs 0 σ' e' B' w'.er (kept_start k)
      rw [hl] at h1
      exact fin v H' F' A2 B2 x h1 o2 (d2.sub (h2.append_left A2)) w'.tr fun a h => s' a ((h2.append_left A2).subset h)
    | exc c e' =>
      rw [q] at fin
      intro σ' H' F' B' k x w' s'
      obtain ⟨B2, h1, h2⟩ := outs_ok (kp := kp) vs 0 σ' e' B' w'.er (kept_start k)
      rw [hl] at h1
      exact fin H' F' B2 x h1 (w'.dis.sub h2) w'.tr fun a h => s' a (h2.subset h)
    | bk e' => rw [q] at fin; exact False.elim fin
    | ct e' => rw [q] at fin; exact False.elim fin
    | bad => rw [q] at fin; exact False.elim fin
end

/-! ## calls -/
/-- what stands in a name and is held by it alone is lent; the rest is given or shared -/
def pass : List Ar → Env → Option (List D × Env)
  | [], e => some ([], e)
  | .tmp d :: as, e => (pass as e).map fun r => (d :: r.1, r.2)
  | .slot i :: as, e => match e[i]? with
    | some (some d) => if d.isFz then (pass as e).map fun r => (d :: r.1, r.2) else (pass as (e.set i none)).map fun r => (d :: r.1, r.2)
    | _ => none
def back : List Ar → Env → Env → Env → Env
  | .tmp _ :: as, e, _ :: os, r => back as e os r
  | .slot i :: as, e, o :: os, r => match e[i]? with
    | some (some d) => if d.isFz then back as e os r else (back as (e.set i none) os r).set i o
    | _ => r
  | _, _, _, r => r
def sCall (n : Nat) (f : FnD) (os : SA) : SE := fun e => (os e).bind fun as e1 => match pass as e1 with
  | some (ds, e2) => if ds.length = n then (match f ds with
    | .ok d outs => .ok d (back as e1 outs e2)
    | .exc c outs => .exc c (back as e1 outs e2)
    | .bad => .bad) else .bad
  | none => .bad
/-- fewer addresses -/
def Le (A B : List Addr) : Prop := (B.Nodup → A.Nodup) ∧ ∀ a ∈ A, a ∈ B
theorem Le.refl {A : List Addr} : Le A A := ⟨id, fun _ h => h⟩
theorem Le.of {A B : List Addr} (h : A.Sublist B) : Le A B := ⟨fun n => n.sublist h, fun _ z => h.subset z⟩
theorem Le.trans {A B C : List Addr} (h : Le A B) (h' : Le B C) : Le A C := ⟨fun n => h.1 (h'.1 n), fun a z => h'.2 a (h.2 a z)⟩
theorem Le.perm {A B : List Addr} (h : A.Perm B) : Le A B := ⟨fun n => h.nodup_iff.mpr n, fun a z => h.mem_iff.mp z⟩
theorem Le.app {A B C : List Addr} (h : Le A B) : Le (C ++ A) (C ++ B) := ⟨fun n => by
  obtain ⟨n1, n2, n3⟩ := List.nodup_append.mp n
  exact List.nodup_append.mpr ⟨n1, h.1 n2, fun a ha b hb => n3 a ha b (h.2 b hb)⟩, fun a z => (List.mem_append.mp z).elim (List.mem_append_left _) fun q => List.mem_append_right _ (h.2 a q)⟩
theorem Le.dis {F : Addr → Prop} {A B : List Addr} (h : Le A B) (d : Dis F B) : Dis F A := ⟨h.1 d.1, fun a z => d.2 a (h.2 a z)⟩
section
variable {K : PySem.W.Frag} {H H' : Hp} {F F' : Addr → Prop} {σ : L2.St}
theorem set_same {v : V} {i : Nat} (h : σ[i]? = some (some v)) : σ.set i (some v) = σ := by
  obtain ⟨hi, e⟩ := List.getElem?_eq_some_iff.mp h
  rw [← e]; simp
theorem pass_ok : ∀ (as : List Ar) (vs : List V) (A : List Addr) (e : Env) (ds : List D) (e' : Env) (B : List Addr), EnvR K H F σ e B → rL K σ H F vs as A → pass as e = some (ds, e') →
    ∃ B1 B2, OwL K H F vs ds B1 ∧ EnvR K H F σ e' B2 ∧ (A ++ B).Perm (B1 ++ B2)
  | [], [], A, e, ds, e', B, h, p, q => by
    cases q
    have p' : A = [] := p
    exact ⟨[], B, by simp [OwL], h, by rw [p']⟩
  | [], _ :: _, A, e, ds, e', B, h, p, q => False.elim p
  | _ :: _, [], A, e, ds, e', B, h, p, q => False.elim p
  | .tmp d :: as, v :: vs, A, e, ds, e', B, h, p, q => by
    obtain ⟨A1, A2, rfl, p1, p2⟩ := p
    simp only [pass, Option.map_eq_some_iff] at q
    obtain ⟨⟨ds', e2⟩, q1, q2⟩ := q
    cases q2
    obtain ⟨B1, B2, h1, h2, h3⟩ := pass_ok as vs A2 e ds' e2 B h p2 q1
    refine ⟨A1 ++ B1, B2, by simp only [OwL]; exact ⟨v, vs, A1, B1, rfl, rfl, p1, h1⟩, h2, ?_⟩
    rw [List.append_assoc, List.append_assoc]
    exact h3.append_left A1
  | .slot i :: as, v :: vs, A, e, ds, e', B, h, p, q => by
    obtain ⟨A1, A2, rfl, ⟨rfl, p1⟩, p2⟩ := p
    simp only [pass] at q
    split at q
    · rename_i d q0
      obtain ⟨v', Ad, B', g1, g2, g3, g4⟩ := EnvR.take _ _ _ i _ h q0
      rw [p1] at g1
      cases g1
      split at q
      · rename_i hz
        simp only [Option.map_eq_some_iff] at q
        obtain ⟨⟨ds', e2⟩, q1, q2⟩ := q
        cases q2
        obtain ⟨rfl, g5⟩ := g2.isFz hz
        obtain ⟨B1, B2, h1, h2, h3⟩ := pass_ok as vs A2 e ds' e2 B h p2 q1
        exact ⟨[] ++ B1, B2, by simp only [OwL]; exact ⟨v, vs, [], B1, rfl, rfl, g5.ow, h1⟩, h2, by simpa using h3⟩
      · simp only [Option.map_eq_some_iff] at q
        obtain ⟨⟨ds', e2⟩, q1, q2⟩ := q
        cases q2
        obtain ⟨B1, B2, h1, h2, h3⟩ := pass_ok as vs A2 (e.set i none) ds' e2 B' g4 p2 q1
        refine ⟨Ad ++ B1, B2, by simp only [OwL]; exact ⟨v, vs, Ad, B1, rfl, rfl, g2, h1⟩, h2, ?_⟩
        rw [List.nil_append, List.append_assoc]
        refine List.Perm.trans ?_ (h3.append_left Ad)
        refine (g3.append_left A2).trans ?_
        rw [← List.append_assoc, ← List.append_assoc]
        exact List.perm_append_comm.append_right B'
    · cases q
/-- a slot gets what its value now is -/
theorem EnvR.reset {v : V} {i : Nat} {e : Env} {B1 B2 : List Addr} {o : Option D} {F : Addr → Prop} {H : Hp} (hv : σ[i]? = some (some v)) (h : EnvR K H F σ e B2) (ho : ∀ d, o = some d → Ow K H F v d B1) :
    ∃ B3, EnvR K H F σ (e.set i o) B3 ∧ Le B3 (B1 ++ B2) := by
  obtain ⟨B', h1, h2⟩ := EnvR.drop e σ B2 i (some v) h
  rw [set_same hv] at h1
  cases o with
  | none => exact ⟨B', h1, .of (h2.trans (List.sublist_append_right ..))⟩
  | some d =>
    by_cases hi : i < e.length
    · obtain ⟨B3, h3, h4⟩ := EnvR.put (ho d rfl) _ _ _ i h1 (by simp [hi])
      rw [set_same hv, List.set_set] at h3
      exact ⟨B3, h3, (Le.perm h4).trans (.of (h2.append_left B1))⟩
    · rw [List.set_eq_of_length_le (by omega)] at h1 ⊢
      exact ⟨B', h1, .of (h2.trans (List.sublist_append_right ..))⟩
theorem back_ok {H0 : Hp} {F0 : Addr → Prop} : ∀ (as : List Ar) (vs : List V) (A : List Addr) (e os r : Env) (B1 B2 : List Addr), rL K σ H0 F0 vs as A → EnvR K H F (vs.map some) os B1 → EnvR K H F σ r B2 →
    ∃ B3, EnvR K H F σ (back as e os r) B3 ∧ Le B3 (B1 ++ B2)
  | [], vs, A, e, os, r, B1, B2, p, h1, h2 => ⟨B2, by simpa only [back] using h2, .of (List.sublist_append_right ..)⟩
  | _ :: _, [], A, e, os, r, B1, B2, p, h1, h2 => False.elim p
  | .tmp d :: as, v :: vs, A, e, [], r, B1, B2, p, h1, h2 => by simp [EnvR] at h1
  | .slot i :: as, v :: vs, A, e, [], r, B1, B2, p, h1, h2 => by simp [EnvR] at h1
  | .tmp d :: as, v :: vs, A, e, o :: os, r, B1, B2, p, h1, h2 => by
    obtain ⟨A1, A2, rfl, p1, p2⟩ := p
    simp only [back]
    cases o with
    | none =>
      simp only [List.map_cons, EnvR] at h1
      obtain ⟨s, σ', e1, h1⟩ := h1
      cases e1
      exact back_ok as vs A2 e os r B1 B2 p2 h1 h2
    | some d' =>
      simp only [List.map_cons, EnvR] at h1
      obtain ⟨x, σ', C1, C2, e1, rfl, _, h1⟩ := h1
      cases e1
      obtain ⟨B3, g1, g3⟩ := back_ok as vs A2 e os r C2 B2 p2 h1 h2
      exact ⟨B3, g1, g3.trans (.of (by rw [List.append_assoc]; exact List.sublist_append_right ..))⟩
  | .slot i :: as, v :: vs, A, e, o :: os, r, B1, B2, p, h1, h2 => by
    obtain ⟨A1, A2, rfl, ⟨rfl, p1⟩, p2⟩ := p
    have key : ∃ C1 C2, EnvR K H F (vs.map some) os C2 ∧ B1 = C1 ++ C2 ∧ ∀ d, o = some d → Ow K H F v d C1 := by
      cases o with
      | none =>
        simp only [List.map_cons, EnvR] at h1
        obtain ⟨s, σ', e1, h1⟩ := h1
        cases e1
        exact ⟨[], B1, h1, rfl, fun _ z => by cases z⟩
      | some d' =>
        simp only [List.map_cons, EnvR] at h1
        obtain ⟨x, σ', C1, C2, e1, rfl, q, h1⟩ := h1
        cases e1
        exact ⟨C1, C2, h1, rfl, fun _ z => by cases z; exact q⟩
    obtain ⟨C1, C2, k1, rfl, k2⟩ := key
    simp only [back]
    split
    · split
      · obtain ⟨B3, g1, g3⟩ := back_ok as vs A2 e os r C2 B2 p2 k1 h2
        exact ⟨B3, g1, g3.trans (.of (by rw [List.append_assoc]; exact List.sublist_append_right ..))⟩
      · obtain ⟨B3, g1, g3⟩ := back_ok as vs A2 (e.set i none) os r C2 B2 p2 k1 h2
        obtain ⟨B5, g4, g6⟩ := EnvR.reset p1 g1 k2
        exact ⟨B5, g4, g6.trans (by rw [List.append_assoc]; exact g3.app)⟩
    · exact ⟨B2, h2, .of (List.sublist_append_right ..)⟩

theorem Ext.app {B C : List Addr} (x : Ext B H F H' F') : Ext (B ++ C) H F H' F' := x.wk fun a h => List.mem_append_left _ h
theorem sCall_read {cv : Nat → Value} {W : WX} {n : Nat} {f : FnD} {os : SA} {Q : VK} (h : sm K cv W (rD K) (sCall n f os) σ H Q) : tCallS (spF K cv n f) (WE W) (sm K cv W (rL K) os) σ H Q := by
  refine (sm.run0 (P := rL K) (m := os) h).mono fun vs H1 ⟨F1, env1, as, A1, B1, w, p, d, f1⟩ => ?_
  split at f1
  · rename_i ds e2 q
    split at f1
    · rename_i hn
      obtain ⟨C1, C2, o, er, pm⟩ := pass_ok as vs A1 env1 ds e2 B1 w.er p q
      have dC : Dis F1 (C1 ++ C2) := d.perm pm
      refine ⟨by rw [o.length, hn], F1, ds, C1, o, dC.left, w.tr, w.tab, ?_⟩
      have w2 : Wl K σ H1 F1 e2 C2 := ⟨er, dC.right, w.tr, w.tab⟩
      cases q2 : f ds with
      | ok dr outs =>
        rw [q2] at f1
        intro v H' F' A' B' x eo ov dd tr s
        have nC : ∀ c ∈ C2, c ∉ C1 := fun c hc z => dC.apart c z hc
        have w3 := w2.ext x nC dC.left.notF
        obtain ⟨B3, g1, g2⟩ := back_ok as vs A1 env1 outs e2 B' C2 p eo w3.er
        have dBC : Dis F' (A' ++ (B' ++ C2)) := by
          rw [← List.append_assoc]
          refine Dis.app dd w3.dis fun c hc z => ?_
          rcases s c hc with q | q
          · exact nC c z q
          · obtain ⟨xs, e⟩ := EnvR.there _ _ _ w2.er c z
            rw [e] at q; cases q
        have key : ∀ c ∈ A' ++ B3, c ∈ A1 ++ B1 ∨ H1 c = none := fun c hc => by
          have : c ∈ (A' ++ B') ++ C2 := by
            rcases List.mem_append.mp hc with z | z
            · simp [z]
            · rcases List.mem_append.mp (g2.2 c z) with z | z <;> simp [z]
          rcases List.mem_append.mp this with z | z
          · exact (s c z).imp (fun z => pm.mem_iff.mpr (List.mem_append_left _ z)) id
          · exact .inl (pm.mem_iff.mpr (List.mem_append_right _ z))
        exact f1 v H' F' A' B3 (x.wk fun a z => pm.mem_iff.mpr (List.mem_append_left _ z)) ⟨g1, (Le.dis g2 dBC.right), tr, w3.tab⟩ ov (Le.dis g2.app dBC) key
      | exc c outs =>
        rw [q2] at f1
        intro H' F' B' x eo dd tr s
        have nC : ∀ c ∈ C2, c ∉ C1 := fun c hc z => dC.apart c z hc
        have w3 := w2.ext x nC dC.left.notF
        obtain ⟨B3, g1, g2⟩ := back_ok as vs A1 env1 outs e2 B' C2 p eo w3.er
        have dBC : Dis F' (B' ++ C2) := by
          refine Dis.app dd w3.dis fun c hc z => ?_
          rcases s c hc with q | q
          · exact nC c z q
          · obtain ⟨xs, e⟩ := EnvR.there _ _ _ w2.er c z
            rw [e] at q; cases q
        have key : ∀ c ∈ B3, c ∈ A1 ++ B1 ∨ H1 c = none := fun c hc => by
          rcases List.mem_append.mp (g2.2 c hc) with z | z
          · exact (s c z).imp (fun z => pm.mem_iff.mpr (List.mem_append_left _ z)) id
          · exact .inl (pm.mem_iff.mpr (List.mem_append_right _ z))
        exact f1 H' F' B3 (x.wk fun a z => pm.mem_iff.mpr (List.mem_append_left _ z)) ⟨g1, Le.dis g2 dBC, tr, w3.tab⟩ key
      | bad => rw [q2] at f1; exact False.elim f1
    · exact False.elim f1
  · exact False.elim f1
end
section
variable {X : Cx} {cv : Nat → Value} {W : WX} {k n : Nat} {f : Addr} {fd : FuncData} {ps : List Str} {g : FnD} {x : Str} {p pos : Pos} {e : Expr} {es : List Expr} {os : SA}
theorem px_call (F : FnOk X.prog X.w X.K X.mg X.base (L2N.CX X.prog X.w) k f fd ps (spF X.K cv n g)) (tk : L2N.Takes X W) (hr : Room k X.A) (hg : Gl X x) (hm : X.mg x = some (.ref f)) (hk : PySem.W.keepIn X.K (.ref f) = true) (hb : Binds X.K fd ps [])
    (hdb : (x == ("__debug__" : Str)) = false) (hs : (e :: es).all notStar = true) (ha : PA X (e :: es) (sm X.K cv W (rL X.K) os)) :
    PE X (.Call (.Name x p) (e :: es) [] pos) (sm X.K cv W (rD X.K) (sCall n g os)) := by
  simp only [List.all_cons, Bool.and_eq_true] at hs
  exact (pe_callS F hr hg hm hk hb (fun σ => L2N.passAt tk σ) ha hdb (star_cons hs.1) (star_plain hs.2)).imp fun σ H Q => sCall_read
end
end PV
set_option Elab.async false
set_option linter.all false
set_option maxRecDepth 100000
set_option maxHeartbeats 4000000
namespace PV
open PySem PySem.Spec PyProof.Rows L2
variable [Tabs]

/-! ## what a loop walks -/
/-- from a state on, whatever is done to what is held, the iterator J goes through ds -/
structure Steps (K : PySem.W.Frag) (J : It) (H : Hp) (F : Addr → Prop) (B : List Addr) (ds : List D) : Prop where
  go : ∀ i H' F', Ext B H F H' F' → i < ds.length → J.go i H'
  yld : ∀ i H' F' x H2, Ext B H F H' F' → i < ds.length → J.yld i H' x H2 → ∃ d, ds[i]? = some d ∧ Fz K H2 F' x d ∧ Ext [] H' F' H2 F'
  stop : ∀ H' F', Ext B H F H' F' → J.stop ds.length H'
section
variable {K : PySem.W.Frag} {H H1 H' : Hp} {F F1 F' : Addr → Prop} {B B1 A : List Addr} {ds : List D} {σ : L2.St} {env : Env}
theorem steps_list {a : Addr} {xs : List V} (h : LstS H F a xs) (r : FzL K H F xs ds) (n : ∀ c, F c → c ∉ B) : Steps K (Itl K a) H F B ds where
  go := fun i H' F' x hi => by
    obtain ⟨v, h1, _⟩ := r.get (List.getElem?_eq_getElem hi)
    exact ⟨xs, v, (h.ext x n).sq, h1⟩
  yld := fun i H' F' v H2 x hi y => by
    obtain ⟨rfl, y⟩ := y
    refine ⟨ds[i], List.getElem?_eq_getElem hi, ?_, Ext.refl⟩
    obtain ⟨v', h1, h2⟩ := (FzL.ext x n _ _ r).get (List.getElem?_eq_getElem hi)
    have := y xs (h.ext x n).sq
    rw [h1] at this
    cases this
    exact h2
  stop := fun H' F' x => ⟨xs, (h.ext x n).sq, by rw [r.length]; exact Nat.le_refl _⟩
theorem steps_scr {a : Addr} {xs : List V} (h : ScrS K H F a xs) (r : FzL K H F xs ds) (n : ∀ c, F c → c ∉ B) : Steps K (Itl K a) H F B ds where
  go := fun i H' F' x hi => by
    obtain ⟨v, h1, _⟩ := r.get (List.getElem?_eq_getElem hi)
    exact ⟨xs, v, (h.ext x n).sq, h1⟩
  yld := fun i H' F' v H2 x hi y => by
    obtain ⟨rfl, y⟩ := y
    refine ⟨ds[i], List.getElem?_eq_getElem hi, ?_, Ext.refl⟩
    obtain ⟨v', h1, h2⟩ := (FzL.ext x n _ _ r).get (List.getElem?_eq_getElem hi)
    have := y xs (h.ext x n).sq
    rw [h1] at this
    cases this
    exact h2
  stop := fun H' F' x => ⟨xs, (h.ext x n).sq, by rw [r.length]; exact Nat.le_refl _⟩
theorem steps_tup {a : Addr} {xs : List V} (h : SqT K H a xs) (r : FzL K H F xs ds) (n : ∀ c, F c → c ∉ B) : Steps K (Itt K a) H F B ds where
  go := fun i H' F' x hi => by
    obtain ⟨v, h1, _⟩ := r.get (List.getElem?_eq_getElem hi)
    exact ⟨xs, v, sqT_ext x h, h1⟩
  yld := fun i H' F' v H2 x hi y => by
    obtain ⟨rfl, y⟩ := y
    refine ⟨ds[i], List.getElem?_eq_getElem hi, ?_, Ext.refl⟩
    obtain ⟨v', h1, h2⟩ := (FzL.ext x n _ _ r).get (List.getElem?_eq_getElem hi)
    have := y xs (sqT_ext x h)
    rw [h1] at this
    cases this
    exact h2
  stop := fun H' F' x => ⟨xs, sqT_ext x h, by rw [r.length]; exact Nat.le_refl _⟩
def rngD (lo : Int) (n : Nat) : List D := (List.range n).map fun (i : Nat) => D.int (lo + (i : Int))
theorem steps_range {lo : Int} {n : Nat} : Steps K (Itr lo n) H F B (rngD lo n) where
  go := fun i H' F' x hi => by show i < n; simpa [rngD] using hi
  yld := fun i H' F' v H2 x hi y => by
    obtain ⟨rfl, rfl⟩ := y
    have hi' : i < n := by simpa [rngD] using hi
    exact ⟨.int (lo + i), by simp [rngD, hi'], fz_int, Ext.refl⟩
  stop := fun H' F' x => by show n ≤ _; simp [rngD]
def rngC (lo c : Int) (n : Nat) : List D := (List.range n).map fun (i : Nat) => D.int (lo + (i : Int) * c)
theorem steps_range3 {lo c : Int} {n : Nat} : Steps K (Itc lo c n) H F B (rngC lo c n) where
  go := fun i H' F' x hi => by show i < n; simpa [rngC] using hi
  yld := fun i H' F' v H2 x hi y => by
    obtain ⟨rfl, rfl⟩ := y
    have hi' : i < n := by simpa [rngC] using hi
    exact ⟨.int (lo + i * c), by simp [rngC, hi'], fz_int, Ext.refl⟩
  stop := fun H' F' x => by show n ≤ _; simp [rngC]
theorem FzL.pair {x y : V} {dx dy : D} {T : Addr} (hT : H T = none) (h1 : Fz K H F x dx) (h2 : Fz K H F y dy) : Fz K (upd H T (.tup [x, y])) F (.ref T) (.tup [dx, dy]) := by
  simp only [Fz]
  refine ⟨T, [x, y], rfl, .inl (.inl upd_same), ?_⟩
  refine FzL.ext (B := []) (Ext.laid hT) (fun _ _ z => by cases z) _ _ ?_
  simp only [FzL]
  exact ⟨x, [y], rfl, h1, y, [], rfl, h2, rfl⟩
def enumD (ds : List D) : List D := (List.range ds.length).zipWith (fun (i : Nat) d => .tup [.int (i : Int), d]) ds
theorem enumD_get {i : Nat} (hi : i < ds.length) : (enumD ds)[i]? = some (.tup [.int (i : Int), ds[i]]) := by
  simp [enumD, List.getElem?_zipWith, hi]
theorem steps_enum {a : Addr} {xs : List V} (h : LstS H F a xs) (r : FzL K H F xs ds) (n : ∀ c, F c → c ∉ B) : Steps K (Ite K a) H F B (enumD ds) where
  go := fun i H' F' x hi => by
    obtain ⟨v, h1, _⟩ := r.get (List.getElem?_eq_getElem (show i < ds.length by simpa [enumD] using hi))
    exact ⟨xs, v, (h.ext x n).sq, h1⟩
  yld := fun i H' F' v H2 x hi y => by
    have hi' : i < ds.length := by simpa [enumD] using hi
    obtain ⟨T, z, rfl, hT, rfl, y⟩ := y
    refine ⟨_, enumD_get hi', ?_, Ext.laid hT⟩
    obtain ⟨v', h1, h2⟩ := (FzL.ext x n _ _ r).get (List.getElem?_eq_getElem hi')
    have := y xs (h.ext x n).sq
    rw [h1] at this
    cases this
    exact FzL.pair hT fz_int h2
  stop := fun H' F' x => ⟨xs, (h.ext x n).sq, by rw [r.length]; simp [enumD]⟩
def zipD (ds es : List D) : List D := ds.zipWith (fun d e => .tup [d, e]) es
theorem steps_zipL {a b : Addr} {xs ys : List V} {es : List D} (h : LstS H F a xs) (r : FzL K H F xs ds) (h' : LstS H F b ys) (r' : FzL K H F ys es) (n : ∀ c, F c → c ∉ B) : Steps K (Itz K a b) H F B (zipD ds es) where
  go := fun i H' F' x hi => by
    have hi' : i < ds.length ∧ i < es.length := by simp [zipD] at hi; omega
    obtain ⟨v, h1, _⟩ := r.get (List.getElem?_eq_getElem hi'.1)
    obtain ⟨w, h2, _⟩ := r'.get (List.getElem?_eq_getElem hi'.2)
    exact ⟨xs, ys, v, w, (h.ext x n).sq, (h'.ext x n).sq, h1, h2⟩
  yld := fun i H' F' v H2 x hi y => by
    have hi' : i < ds.length ∧ i < es.length := by simp [zipD] at hi; omega
    obtain ⟨T, z, z', rfl, hT, rfl, y, y'⟩ := y
    refine ⟨.tup [ds[i]'hi'.1, es[i]'hi'.2], by simp [zipD, List.getElem?_zipWith, hi'.1, hi'.2], ?_, Ext.laid hT⟩
    obtain ⟨v', h1, h2⟩ := (FzL.ext x n _ _ r).get (List.getElem?_eq_getElem hi'.1)
    obtain ⟨w', h3, h4⟩ := (FzL.ext x n _ _ r').get (List.getElem?_eq_getElem hi'.2)
    have e1 := y xs (h.ext x n).sq
    have e2 := y' ys (h'.ext x n).sq
    rw [h1] at e1
    rw [h3] at e2
    cases e1
    cases e2
    exact FzL.pair hT h2 h4
  stop := fun H' F' x => ⟨xs, ys, (h.ext x n).sq, (h'.ext x n).sq, by rw [r.length, r'.length]; simp [zipD]; omega⟩
theorem steps_zipT {a b : Addr} {xs ys : List V} {es : List D} (h : SqT K H a xs) (r : FzL K H F xs ds) (h' : SqT K H b ys) (r' : FzL K H F ys es) (n : ∀ c, F c → c ∉ B) : Steps K (RZ.ItzT K a b) H F B (zipD ds es) where
  go := fun i H' F' x hi => by
    have hi' : i < ds.length ∧ i < es.length := by simp [zipD] at hi; omega
    obtain ⟨v, h1, _⟩ := r.get (List.getElem?_eq_getElem hi'.1)
    obtain ⟨w, h2, _⟩ := r'.get (List.getElem?_eq_getElem hi'.2)
    exact ⟨xs, ys, v, w, sqT_ext x h, sqT_ext x h', h1, h2⟩
  yld := fun i H' F' v H2 x hi y => by
    have hi' : i < ds.length ∧ i < es.length := by simp [zipD] at hi; omega
    obtain ⟨T, z, z', rfl, hT, rfl, y, y'⟩ := y
    refine ⟨.tup [ds[i]'hi'.1, es[i]'hi'.2], by simp [zipD, List.getElem?_zipWith, hi'.1, hi'.2], ?_, Ext.laid hT⟩
    obtain ⟨v', h1, h2⟩ := (FzL.ext x n _ _ r).get (List.getElem?_eq_getElem hi'.1)
    obtain ⟨w', h3, h4⟩ := (FzL.ext x n _ _ r').get (List.getElem?_eq_getElem hi'.2)
    have e1 := y xs (sqT_ext x h)
    have e2 := y' ys (sqT_ext x h')
    rw [h1] at e1
    rw [h3] at e2
    cases e1
    cases e2
    exact FzL.pair hT h2 h4
  stop := fun H' F' x => ⟨xs, ys, sqT_ext x h, sqT_ext x h', by rw [r.length, r'.length]; simp [zipD]; omega⟩
theorem rev_get {i : Nat} {α : Type} {l : List α} (hi : i < l.length) : l.reverse[i]? = some (l[l.length - 1 - i]'(by omega)) := by
  rw [List.getElem?_reverse hi, List.getElem?_eq_getElem]
theorem steps_revL {a : Addr} {xs : List V} (h : LstS H F a xs) (r : FzL K H F xs ds) (n : ∀ c, F c → c ∉ B) : Steps K (Itv K a xs.length) H F B ds.reverse where
  go := fun i H' F' x hi => by
    have hi' : i < ds.length := by simpa using hi
    obtain ⟨v, h1, _⟩ := r.get (i := ds.length - 1 - i) (List.getElem?_eq_getElem (by omega))
    exact ⟨by rw [r.length]; exact hi', xs, v, (h.ext x n).sq, by rw [r.length]; exact h1⟩
  yld := fun i H' F' v H2 x hi y => by
    have hi' : i < ds.length := by simpa using hi
    obtain ⟨rfl, y⟩ := y
    refine ⟨_, rev_get hi', ?_, Ext.refl⟩
    obtain ⟨v', h1, h2⟩ := (FzL.ext x n _ _ r).get (i := ds.length - 1 - i) (List.getElem?_eq_getElem (by omega))
    have := y xs (h.ext x n).sq
    rw [r.length, h1] at this
    cases this
    exact h2
  stop := fun H' F' x => by show xs.length ≤ _; rw [r.length]; simp
theorem steps_revT {a : Addr} {xs : List V} (h : SqT K H a xs) (r : FzL K H F xs ds) (n : ∀ c, F c → c ∉ B) : Steps K (RT.ItvT K a xs.length) H F B ds.reverse where
  go := fun i H' F' x hi => by
    have hi' : i < ds.length := by simpa using hi
    obtain ⟨v, h1, _⟩ := r.get (i := ds.length - 1 - i) (List.getElem?_eq_getElem (by omega))
    exact ⟨by rw [r.length]; exact hi', xs, v, sqT_ext x h, by rw [r.length]; exact h1⟩
  yld := fun i H' F' v H2 x hi y => by
    have hi' : i < ds.length := by simpa using hi
    obtain ⟨rfl, y⟩ := y
    refine ⟨_, rev_get hi', ?_, Ext.refl⟩
    obtain ⟨v', h1, h2⟩ := (FzL.ext x n _ _ r).get (i := ds.length - 1 - i) (List.getElem?_eq_getElem (by omega))
    have := y xs (sqT_ext x h)
    rw [r.length, h1] at this
    cases this
    exact h2
  stop := fun H' F' x => by show xs.length ≤ _; rw [r.length]; simp
end

/-! ### the readings of what is walked -/
abbrev SI := SM (List D)
section
variable (K : PySem.W.Frag) (cv : Nat → Value) (W : WX)
def FinI (σ : L2.St) (H : Hp) (F : Addr → Prop) (B : List Addr) (Rr : It → Hp → Prop) : R (List D) → Prop
  | .ok ds e' => ∀ J H' F' B', Ext B H F H' F' → Wl K σ H' F' e' B' → Sub B' B H → Steps K J H' F' B' ds → Rr J H'
  | .exc c e' => ∀ H' F' B', Ext B H F H' F' → Wl K σ H' F' e' B' → Sub B' B H → W (cv c) none σ H'
  | .bad => False
def si (m : SI) : TI := fun σ H Rr => ∃ F env B, Wl K σ H F env B ∧ FinI K cv W σ H F B Rr (m env)
end
theorem _root_.L2.PI.imp {X : Cx} {tg iter : Expr} {t t' : TI} (h : PI X tg iter t) (i : ∀ σ H Q, t' σ H Q → t σ H Q) : PI X tg iter t' := ⟨fun pins s σ H Q I hw => h.run pins s σ H Q I (i σ H Q hw)⟩
section
variable {K : PySem.W.Frag} {cv : Nat → Value} {W : WX} {σ : L2.St} {H : Hp} {Rr : It → Hp → Prop}
/-- an expression whose value is walked -/
theorem sm.runI {α ν : Type} {P : Rp α ν} {m : SM α} {g : α → Option (List D)} (h : si K cv W (fun e => (m e).bind fun a e1 => match g a with
    | some ds => .ok ds e1
    | none => .bad) σ H Rr) :
    sm K cv W P m σ H fun v H1 => ∃ F1 env1 a A1 B1 ds, Wl K σ H1 F1 env1 B1 ∧ P σ H1 F1 v a A1 ∧ Dis F1 (A1 ++ B1) ∧ g a = some ds ∧ FinI K cv W σ H1 F1 (A1 ++ B1) Rr (.ok ds env1) := by
  obtain ⟨F, env, B, w, f⟩ := h
  refine ⟨F, env, B, w, ?_⟩
  dsimp only at f
  cases e : m env with
  | bad => rw [e] at f; exact f
  | exc c e' => rw [e] at f; exact f
  | ok a e' =>
    rw [e] at f
    simp only [R.bind] at f
    cases q : g a with
    | none => rw [q] at f; exact False.elim f
    | some ds =>
      rw [q] at f
      exact fun v H1 F1 A1 B1 x w1 p d s => ⟨F1, e', a, A1, B1, ds, w1, p, d, q, fun J H' F' B' y w2 s2 st => f J H' F' B' (x.trans y s) w2 (s.trans s2 x.fr) st⟩
/-- the temp's lists are shared from here on -/
theorem FinI.done {F : Addr → Prop} {A B : List Addr} {env : Env} {ds : List D} {J : It} (w : Wl K σ H F env B) (d : Dis F (A ++ B)) (t : ∀ a ∈ A, H a ≠ none) (f : FinI K cv W σ H F (A ++ B) Rr (.ok ds env))
    (st : (∀ c, F c ∨ c ∈ A → c ∉ B) → Steps K J H (fun a => F a ∨ a ∈ A) B ds) : Rr J H :=
  f J H (fun a => F a ∨ a ∈ A) B (Ext.freeze (fun a h => List.mem_append_left _ h) t) (w.freeze d t) (fun a h => .inl (List.mem_append_right _ h)) (st fun c h z => (w.freeze d t).dis.2 c z h)
theorem ow_tup {F : Addr → Prop} {A : List Addr} {v : V} {l : List D} (o : Ow K H F v (.tup l) A) : ∃ a xs, v = .ref a ∧ SqT K H a xs ∧ FzL K H F xs l := by
  simp only [Ow] at o
  exact o.2
theorem ow_lst {F : Addr → Prop} {A : List Addr} {v : V} {b : Bool} {l : List D} (o : Ow K H F v (.lst b l) A) : ∃ a xs, v = .ref a ∧ LstS H (fun c => F c ∨ c ∈ A) a xs ∧ FzL K H (fun c => F c ∨ c ∈ A) xs (fzs l) := by
  have z := Ow.fz (F' := fun c => F c ∨ c ∈ A) (fun _ h => .inl h) _ _ _ o (fun _ h => .inr h)
  simp only [D.fz, Fz] at z
  exact z.2
theorem ow_scr {F : Addr → Prop} {A : List Addr} {v : V} {l : List D} (o : Ow K H F v (.scr l) A) : ∃ a xs, v = .ref a ∧ ScrS K H F a xs ∧ FzL K H F xs l := by
  simp only [Ow] at o
  exact o.2
end
section
variable {X : Cx} {tg : Expr} {cv : Nat → Value} {W : WX}
def isL : D → Option (List D)
  | .lst _ l => some (fzs l)
  | _ => none
def isT : D → Option (List D)
  | .tup l => some l
  | _ => none
def isS : D → Option (List D)
  | .scr l => some l
  | _ => none
def iOf (s : SE) (f : D → Option (List D)) : SI := fun e => (s e).bind fun a e1 => match f a with
  | some ds => .ok ds e1
  | none => .bad
theorem there_D {K : PySem.W.Frag} {H : Hp} {F : Addr → Prop} {v : V} {d : D} {A : List Addr} (o : Ow K H F v d A) : ∀ a ∈ A, H a ≠ none := fun a ha => by
  obtain ⟨xs, e⟩ := Ow.there _ _ _ o a ha
  rw [e]; simp
theorem FzL.wk {K : PySem.W.Frag} {H : Hp} {F : Addr → Prop} {A : List Addr} {l : List D} {xs : List V} (r : FzL K H F xs l) : FzL K H (fun c => F c ∨ c ∈ A) xs l := FzL.mono (fun _ h => .inl h) _ _ r
theorem qi_list {e : Expr} {s : SE} (he : PE X e (sm X.K cv W (rD X.K) s)) : PI X tg e (si X.K cv W (iOf s isL)) :=
  (pi_list he).imp fun σ H Rr h => (sm.runI (P := rD X.K) h).mono fun v H1 ⟨F1, env1, a, A1, B1, ds, w, p, d, q, f⟩ => by
    cases a <;> try (cases q; done)
    cases q
    obtain ⟨b, xs, rfl, h1, h2⟩ := ow_lst p
    exact ⟨b, rfl, ⟨xs, h1.sq⟩, f.done w d (there_D p) fun n => steps_list h1 h2 n⟩
theorem qi_tup {e : Expr} {s : SE} (he : PE X e (sm X.K cv W (rD X.K) s)) : PI X tg e (si X.K cv W (iOf s isT)) :=
  (pi_tup he).imp fun σ H Rr h => (sm.runI (P := rD X.K) h).mono fun v H1 ⟨F1, env1, a, A1, B1, ds, w, p, d, q, f⟩ => by
    cases a <;> try (cases q; done)
    cases q
    obtain ⟨b, xs, rfl, h1, h2⟩ := ow_tup p
    exact ⟨b, rfl, ⟨xs, h1⟩, f.done w d (there_D p) fun n => steps_tup h1 h2.wk n⟩
theorem qi_scr {e : Expr} {s : SE} (he : PE X e (sm X.K cv W (rD X.K) s)) : PI X tg e (si X.K cv W (iOf s isS)) :=
  (pi_list he).imp fun σ H Rr h => (sm.runI (P := rD X.K) h).mono fun v H1 ⟨F1, env1, a, A1, B1, ds, w, p, d, q, f⟩ => by
    cases a <;> try (cases q; done)
    cases q
    obtain ⟨b, xs, rfl, h1, h2⟩ := ow_scr p
    exact ⟨b, rfl, ⟨xs, h1.sq⟩, f.done w d (there_D p) fun n => steps_scr (ScrS.mono (fun _ h => .inl h) h1) h2.wk n⟩
/-- whatever it is -/
theorem _root_.L2.PI.or {X : Cx} {tg iter : Expr} {t t' : TI} (h : PI X tg iter t) (h' : PI X tg iter t') : PI X tg iter (fun σ H Q => t σ H Q ∨ t' σ H Q) :=
  ⟨fun pins s σ H Q I hw => hw.elim (h.run pins s σ H Q I) (h'.run pins s σ H Q I)⟩
def isSeq : D → Option (List D)
  | .lst _ l => some (fzs l)
  | .tup l => some l
  | .scr l => some l
  | _ => none
theorem si_split {K : PySem.W.Frag} {s : SE} {f g h : D → Option (List D)} (e : ∀ d, f d = none → g d = none → h d = none) (e1 : ∀ d l, f d = some l → h d = some l) (e2 : ∀ d l, f d = none → g d = some l → h d = some l) {σ : L2.St} {H : Hp} {Rr : It → Hp → Prop}
    (q : si K cv W (iOf s h) σ H Rr) : si K cv W (iOf s f) σ H Rr ∨ si K cv W (iOf s g) σ H Rr := by
  obtain ⟨F, env, B, w, q⟩ := q
  simp only [iOf] at q
  cases z : s env with
  | bad => rw [z] at q; exact False.elim q
  | exc c e' => rw [z] at q; exact .inl ⟨F, env, B, w, by simp only [iOf]; rw [z]; exact q⟩
  | ok d e' =>
    rw [z] at q
    simp only [R.bind] at q
    cases y : f d with
    | some l =>
      rw [e1 d l y] at q
      exact .inl ⟨F, env, B, w, by simp only [iOf]; rw [z]; simp only [R.bind]; rw [y]; exact q⟩
    | none =>
      cases y2 : g d with
      | some l =>
        rw [e2 d l y y2] at q
        exact .inr ⟨F, env, B, w, by simp only [iOf]; rw [z]; simp only [R.bind]; rw [y2]; exact q⟩
      | none =>
        rw [e d y y2] at q
        exact False.elim q
def isTS : D → Option (List D)
  | .tup l => some l
  | .scr l => some l
  | _ => none
/-- a list, a tuple, the script -/
theorem qi_seq {e : Expr} {s : SE} (he : PE X e (sm X.K cv W (rD X.K) s)) : PI X tg e (si X.K cv W (iOf s isSeq)) := by
  refine ((qi_list he).or ((qi_tup he).or (qi_scr he))).imp fun σ H Rr h => ?_
  rcases si_split (f := isL) (g := isTS) (by intro d; cases d <;> simp [isL, isTS, isSeq]) (by intro d l; cases d <;> simp [isL, isTS, isSeq]) (by intro d l; cases d <;> simp [isL, isTS, isSeq]) h with h | h
  · exact .inl h
  · exact .inr (si_split (f := isT) (g := isS) (by intro d; cases d <;> simp [isT, isTS, isS]) (by intro d l; cases d <;> simp [isT, isTS, isS]) (by intro d l; cases d <;> simp [isT, isTS, isS]) h)
/-! ranges -/
def ok62 (i : Int) : Bool := decide (i.natAbs ≤ 4611686018427387903)
theorem ok62_of {i : Int} (h : ok62 i = true) : -(2 ^ 62) ≤ i ∧ i < 2 ^ 62 := by
  have := of_decide_eq_true h
  have e : (2 : Int) ^ 62 = 4611686018427387904 := by decide
  rw [e]
  omega
def aTmps (os : SA) (f : List D → Option (List D)) : SI := fun e => (os e).bind fun as e1 => match (tmps as).bind f with
  | some ds => .ok ds e1
  | none => .bad
def fRg1 : List D → Option (List D)
  | [.int j] => if ok62 j then some (rngD 0 j.toNat) else none
  | _ => none
def fRg2 : List D → Option (List D)
  | [.int i, .int j] => if ok62 i && ok62 j then some (rngD i (j - i).toNat) else none
  | _ => none
theorem ow_int {K : PySem.W.Frag} {H : Hp} {F : Addr → Prop} {v : V} {i : Int} {A : List Addr} (o : Ow K H F v (.int i) A) : v = .int i := by
  simp only [Ow] at o
  exact o.2
theorem qi_range1 {a : Expr} {os : SA} {p pos : Pos} (hg : Gl X "range") (hm : X.mg "range" = none) (hs : notStar a = true) (ha : PA X [a] (sm X.K cv W (rL X.K) os)) : PI X tg (.Call (.Name "range" p) [a] [] pos) (si X.K cv W (aTmps os fRg1)) :=
  (pi_range1 hg hm ha (star_cons hs)).imp fun σ H Rr h => (sm.runI (P := rL X.K) (g := fun as => (tmps as).bind fRg1) h).mono fun v H1 ⟨F1, env1, as, A1, B1, ds, w, p, d, q, f⟩ => by
    simp only [Option.bind_eq_some_iff] at q
    obtain ⟨l, q1, q2⟩ := q
    have o := tmps_ok p q1
    match l, q2 with
    | [.int j], q2 =>
      simp only [fRg1] at q2
      split at q2
      · rename_i hc
        cases q2
        have t := st_L.there p
        simp only [OwL] at o
        obtain ⟨x, xs, A2, A3, rfl, rfl, o1, rfl, rfl⟩ := o
        rw [ow_int o1]
        exact ⟨j, rfl, (ok62_of hc).1, (ok62_of hc).2, f.done w d t fun n => steps_range⟩
      · cases q2
theorem qi_range2 {a b : Expr} {os : SA} {p pos : Pos} (hg : Gl X "range") (hm : X.mg "range" = none) (hs : notStar a = true) (hs2 : notStar b = true) (ha : PA X [a, b] (sm X.K cv W (rL X.K) os)) : PI X tg (.Call (.Name "range" p) [a, b] [] pos) (si X.K cv W (aTmps os fRg2)) :=
  (pi_range2 hg hm ha (by rw [star_cons hs, star_cons hs2]; rfl) (star_cons hs2)).imp fun σ H Rr h => (sm.runI (P := rL X.K) (g := fun as => (tmps as).bind fRg2) h).mono fun v H1 ⟨F1, env1, as, A1, B1, ds, w, p, d, q, f⟩ => by
    simp only [Option.bind_eq_some_iff] at q
    obtain ⟨l, q1, q2⟩ := q
    have o := tmps_ok p q1
    match l, q2 with
    | [.int i, .int j], q2 =>
      simp only [fRg2] at q2
      split at q2
      · rename_i hc
        simp only [Bool.and_eq_true] at hc
        cases q2
        have t := st_L.there p
        simp only [OwL] at o
        obtain ⟨x, xs, A2, A3, rfl, rfl, o1, y, ys, A4, A5, rfl, rfl, o2, rfl, rfl⟩ := o
        rw [ow_int o1, ow_int o2]
        exact ⟨i, j, rfl, ⟨(ok62_of hc.1).1, (ok62_of hc.1).2, (ok62_of hc.2).1, (ok62_of hc.2).2⟩, f.done w d t fun n => steps_range⟩
      · cases q2
/-- downwards: range(i, j, -1) -/
def fRg3 : List D → Option (List D)
  | [.int i, .int j, .int c] => if ok62 i && ok62 j && decide (c = -1) then some (rngC i (-1) (i - j).toNat) else none
  | _ => none
theorem qi_range3 {a b c : Expr} {os : SA} {p pos : Pos} (hg : Gl X "range") (hm : X.mg "range" = none) (hs : [a, b, c].all notStar = true) (ha : PA X [a, b, c] (sm X.K cv W (rL X.K) os)) : PI X tg (.Call (.Name "range" p) [a, b, c] [] pos) (si X.K cv W (aTmps os fRg3)) := by
  simp only [List.all_cons, Bool.and_eq_true] at hs
  refine (pi_range3 hg hm ha (star_cons hs.1) (star_plain (by simp only [List.all_cons, Bool.and_eq_true]; exact hs.2))).imp fun σ H Rr h => (sm.runI (P := rL X.K) (g := fun as => (tmps as).bind fRg3) h).mono fun v H1 ⟨F1, env1, as, A1, B1, ds, w, p, d, q, f⟩ => ?_
  simp only [Option.bind_eq_some_iff] at q
  obtain ⟨l, q1, q2⟩ := q
  have o := tmps_ok p q1
  match l, q2 with
  | [.int i, .int j, .int c], q2 =>
    simp only [fRg3] at q2
    split at q2
    · rename_i hc
      simp only [Bool.and_eq_true, decide_eq_true_eq] at hc
      cases q2
      have t := st_L.there p
      simp only [OwL] at o
      obtain ⟨x, xs, A2, A3, rfl, rfl, o1, y, ys, A4, A5, rfl, rfl, o2, z, zs, A6, A7, rfl, rfl, o3, rfl, rfl⟩ := o
      rw [ow_int o1, ow_int o2, ow_int o3, hc.2]
      exact ⟨i, j, -1, _, rfl, RgC.neg (ok62_of hc.1.1).1 (ok62_of hc.1.1).2 (ok62_of hc.1.2).1 (ok62_of hc.1.2).2, f.done w d t fun n => steps_range3⟩
    · cases q2
/-! reversed, enumerate, zip -/
def revOf (f : D → Option (List D)) (d : D) : Option (List D) := (f d).map List.reverse
theorem qi_rev {e : Expr} {s : SE} {p pos : Pos} (hg : Gl X "reversed") (hm : X.mg "reversed" = none) (hs : notStar e = true) (he : PE X e (sm X.K cv W (rD X.K) s)) : PI X tg (.Call (.Name "reversed" p) [e] [] pos) (si X.K cv W (iOf s (fun d => match d with
    | .lst _ l => some (fzs l).reverse
    | .tup l => some l.reverse
    | _ => none))) :=
  (RT.pi_revA hg hm he (star_cons hs)).imp fun σ H Rr h => (sm.runI (P := rD X.K) h).mono fun v H1 ⟨F1, env1, a, A1, B1, ds, w, p, d, q, f⟩ => by
    cases a <;> try (cases q; done)
    · rename_i l
      cases q
      obtain ⟨b, xs, rfl, h1, h2⟩ := ow_tup p
      exact ⟨b, xs, rfl, .inr ⟨h1, f.done w d (there_D p) fun n => steps_revT h1 h2.wk n⟩⟩
    · rename_i o l
      cases q
      obtain ⟨b, xs, rfl, h1, h2⟩ := ow_lst p
      exact ⟨b, xs, rfl, .inl ⟨h1.sq, f.done w d (there_D p) fun n => steps_revL h1 h2 n⟩⟩
def fEnum : List D → Option (List D)
  | [.lst _ l] => some (enumD (fzs l))
  | _ => none
theorem qi_enum {e : Expr} {os : SA} {p pos tpos : Pos} {elts : List Expr} {kk : Nat} (hg : Gl X "enumerate") (hm : X.mg "enumerate" = none) (hs : notStar e = true) (ha : PA X [e] (sm X.K cv W (rL X.K) os)) : PI X (.Tuple elts kk tpos) (.Call (.Name "enumerate" p) [e] [] pos) (si X.K cv W (aTmps os fEnum)) :=
  (pi_enum hg hm ha (star_cons hs)).imp fun σ H Rr h => (sm.runI (P := rL X.K) (g := fun as => (tmps as).bind fEnum) h).mono fun v H1 ⟨F1, env1, as, A1, B1, ds, w, p, d, q, f⟩ => by
    simp only [Option.bind_eq_some_iff] at q
    obtain ⟨l, q1, q2⟩ := q
    have o := tmps_ok p q1
    match l, q2 with
    | [.lst b l], q2 =>
      cases q2
      have t := st_L.there p
      simp only [OwL] at o
      obtain ⟨x, xs, A2, A3, rfl, rfl, o1, rfl, rfl⟩ := o
      obtain ⟨b, xs, rfl, h1, h2⟩ := ow_lst o1
      rw [List.append_nil] at f d t
      exact ⟨b, xs, rfl, h1.sq, f.done w d t fun n => steps_enum h1 h2 n⟩
def fZip : List D → Option (List D)
  | [.lst _ l, .lst _ m] => some (zipD (fzs l) (fzs m))
  | [.tup l, .tup m] => some (zipD l m)
  | _ => none
theorem qi_zip {e e2 : Expr} {os : SA} {p pos tpos : Pos} {elts : List Expr} {kk : Nat} (hg : Gl X "zip") (hm : X.mg "zip" = none) (hs : notStar e = true) (hs2 : notStar e2 = true) (ha : PA X [e, e2] (sm X.K cv W (rL X.K) os)) : PI X (.Tuple elts kk tpos) (.Call (.Name "zip" p) [e, e2] [] pos) (si X.K cv W (aTmps os fZip)) :=
  (RZ.pi_zipA hg hm ha (star_cons hs) (star_plain (by simp [hs2]))).imp fun σ H Rr h => (sm.runI (P := rL X.K) (g := fun as => (tmps as).bind fZip) h).mono fun v H1 ⟨F1, env1, as, A1, B1, ds, w, p, d, q, f⟩ => by
    simp only [Option.bind_eq_some_iff] at q
    obtain ⟨l, q1, q2⟩ := q
    have o := tmps_ok p q1
    match l, q2 with
    | [.lst b l, .lst b2 m], q2 =>
      cases q2
      have t := st_L.there p
      simp only [OwL] at o
      obtain ⟨x, xs, A2, A3, rfl, rfl, o1, y, ys, A4, A5, rfl, rfl, o2, rfl, rfl⟩ := o
      obtain ⟨b, xs, rfl, h1, h2⟩ := ow_lst o1
      obtain ⟨b2, ys, rfl, h3, h4⟩ := ow_lst o2
      have m1 : ∀ c, F1 c ∨ c ∈ A2 → F1 c ∨ c ∈ A2 ++ (A4 ++ []) := fun c h => h.imp id (List.mem_append_left _)
      have m2 : ∀ c, F1 c ∨ c ∈ A4 → F1 c ∨ c ∈ A2 ++ (A4 ++ []) := fun c h => h.imp id fun h => List.mem_append_right _ (List.mem_append_left _ h)
      exact ⟨b, b2, xs, ys, rfl, .inl ⟨h1.sq, h3.sq, f.done w d t fun n => steps_zipL ⟨h1.1, m1 _ h1.2⟩ (FzL.mono m1 _ _ h2) ⟨h3.1, m2 _ h3.2⟩ (FzL.mono m2 _ _ h4) n⟩⟩
    | [.tup l, .tup m], q2 =>
      cases q2
      have t := st_L.there p
      simp only [OwL] at o
      obtain ⟨x, xs, A2, A3, rfl, rfl, o1, y, ys, A4, A5, rfl, rfl, o2, rfl, rfl⟩ := o
      obtain ⟨b, xs, rfl, h1, h2⟩ := ow_tup o1
      obtain ⟨b2, ys, rfl, h3, h4⟩ := ow_tup o2
      exact ⟨b, b2, xs, ys, rfl, .inr ⟨h1, h3, f.done w d t fun n => steps_zipT h1 h2.wk h3 h4.wk n⟩⟩
end
end PV
set_option Elab.async false
set_option linter.all false
set_option maxRecDepth 100000
set_option maxHeartbeats 4000000
namespace PV
open PySem PySem.Spec PyProof.Rows L2
variable [Tabs]

/-! ## for -/
def loop (g : GT) (body : SS) : List D → Env → RS
  | [], e => .nx e
  | d :: ds, e => match g d e with
    | some e1 => (match body e1 with
      | .nx e2 => loop g body ds e2
      | .ct e2 => loop g body ds e2
      | .bk e2 => .nx e2
      | r => r)
    | none => .bad
def sFor (it : SI) (g : GT) (body : SS) : SS := fun e => (it e).toS fun ds e1 => loop g body ds e1
section
variable {K : PySem.W.Frag} {cv : Nat → Value} {W : WX} {kp : Nat → Bool}
theorem si.runS {it : SI} {k : List D → Env → RS} {De : Ends} {σ : L2.St} {H : Hp} (h : ss K cv W kp (fun e => (it e).toS k) De σ H) :
    si K cv W it σ H fun J H1 => ∃ F1 env1 B1 ds, Wl K σ H1 F1 env1 B1 ∧ Steps K J H1 F1 B1 ds ∧ FinS K cv W kp De σ H1 F1 B1 (k ds env1) := by
  obtain ⟨F, env, B, w, f⟩ := h
  refine ⟨F, env, B, w, ?_⟩
  dsimp only at f
  cases e : it env with
  | bad => rw [e] at f; exact f
  | exc c e' => rw [e] at f; exact fun H' F' B' x w' s => f σ H' F' B' Kp.refl x w' s
  | ok a e' =>
    rw [e] at f
    exact fun J H1 F1 B1 x w1 s st => ⟨F1, e', B1, a, w1, st, FinS.step Kp.refl x s f⟩
theorem sFor_read {it : SI} {g : GT} {body : SS} {De : Ends} {σ : L2.St} {H : Hp} (h : ss K cv W kp (sFor it g body) De σ H) : tFor (si K cv W it) (gT K kp g) (ss K cv W kp body) De σ H := by
  obtain ⟨F0, env0, B0, w0, f0⟩ := si.runS h
  refine ⟨F0, env0, B0, w0, ?_⟩
  have mono : ∀ {r : R (List D)} {Rr Rr' : It → Hp → Prop}, (∀ J H, Rr J H → Rr' J H) → FinI K cv W σ H F0 B0 Rr r → FinI K cv W σ H F0 B0 Rr' r := fun {r} {Rr Rr'} i q => by
    cases r with
    | ok ds e' => exact fun J H' F' B' x w s st => i _ _ (q J H' F' B' x w s st)
    | exc c e' => exact q
    | bad => exact q
  refine mono (fun J H1 ⟨F1, env1, B1, ds, w1, st, f1⟩ => ?_) f0
  refine ⟨fun i m σ' H' => m = ds.length - i ∧ i ≤ ds.length ∧ ∃ F' env' B', Ext B1 H1 F1 H' F' ∧ Wl K σ' H' F' env' B' ∧ Sub B' B1 H1 ∧ FinS K cv W kp De σ' H' F' B' (loop g body (ds.drop i) env'), ⟨ds.length, by simp, Nat.zero_le _, F1, env1, B1, Ext.refl, w1, Sub.refl, by simpa using f1⟩, ?_⟩
  rintro i m σ' H' ⟨rfl, hi, F', env', B', x, w, s, f⟩
  by_cases hlt : i < ds.length
  · refine .inr ⟨st.go i H' F' x hlt, fun σ2 H2 => ∃ F2 env2 B2, Ext B1 H1 F1 H2 F2 ∧ Wl K σ2 H2 F2 env2 B2 ∧ Sub B2 B1 H1 ∧ FinS K cv W kp De σ2 H2 F2 B2 (loop g body (ds.drop (i + 1)) env2),
      fun σ2 H2 q => ⟨_, by omega, rfl, hlt, q⟩, fun v H2 y => ?_⟩
    obtain ⟨d, hd, fz, x2⟩ := st.yld i H' F' v H2 x hlt y
    have e1 : ds.drop i = d :: ds.drop (i + 1) := by
      rw [List.getElem?_eq_getElem hlt] at hd
      cases hd
      exact List.drop_eq_getElem_cons hlt
    rw [e1] at f
    have w2 : Wl K σ' H2 F' env' B' := w.ext x2 (fun _ _ z => by cases z) fun _ _ z => by cases z
    have x3 : Ext B1 H1 F1 H2 F' := x.trans (x2.wk (B1 := B') fun _ z => by cases z) s
    have f2 : FinS K cv W kp De σ' H2 F' B' (loop g body (d :: ds.drop (i + 1)) env') := FinS.step Kp.refl (x2.wk (B1 := B') fun _ z => by cases z) Sub.refl f
    simp only [loop] at f2
    cases hg : g d env' with
    | none => rw [hg] at f2; exact False.elim f2
    | some e2 =>
      rw [hg] at f2
      refine ⟨F', env', d, [], B', e2, w2, fz.ow, w2.dis, hg, fun σ3 H3 F3 B3 k3 x4 w3 s3 => ?_⟩
      have x5 : Ext B1 H1 F1 H3 F3 := x3.trans x4 s
      have s3 : Sub B3 B' H2 := s3
      have s5 : Sub B3 B1 H1 := s.trans s3 x3.fr
      have f3 := FinS.step k3 x4 s3 f2
      refine ⟨F3, e2, B3, w3, ?_⟩
      simp only [] at f3
      cases hb : body e2 with
      | nx e4 =>
        rw [hb] at f3
        exact fun σ4 H4 F4 B4 k4 x6 w4 s4 => ⟨F4, e4, B4, x5.trans x6 s5, w4, s5.trans s4 x5.fr, FinS.step k4 x6 s4 f3⟩
      | ct e4 =>
        rw [hb] at f3
        exact fun σ4 H4 F4 B4 k4 x6 w4 s4 => ⟨F4, e4, B4, x5.trans x6 s5, w4, s5.trans s4 x5.fr, FinS.step k4 x6 s4 f3⟩
      | bk e4 => rw [hb] at f3; exact f3
      | rt d4 e4 => rw [hb] at f3; exact f3
      | exc c e4 => rw [hb] at f3; exact f3
      | bad => rw [hb] at f3; exact f3
  · have e : i = ds.length := by omega
    subst e
    rw [List.drop_length] at f
    exact .inl ⟨st.stop H' F' x, f σ' H' F' B' Kp.refl Ext.refl w Sub.refl⟩
end
section
variable {X : Cx} {cv : Nat → Value} {W : WX} {kp : Nat → Bool}
theorem qs_for {tg iter : Expr} {b : List Stmt} {it : SI} {g : GT} {body : SS} {pos : Pos} (hp : PassesOwn (model X.prog X.w) X.A X.env X.xe) (hc : X.calm = true) (hi : PI X tg iter (si X.K cv W it)) (hg : PG X tg (gT X.K kp g)) (hb : PSs X b (ss X.K cv W kp body))
    (hs : ∀ x, foldedSetIterable iter X.env x = pure x) : PS X (.For tg iter b [] pos) (ss X.K cv W kp (sFor it g body)) :=
  (ps_for hp hc hi hg hb hs).imp fun D σ H => sFor_read
end

/-! ## a list comprehension -/
def WF : WX := fun _ _ _ _ => False
def wipeE (e : Env) : List Nat → Env
  | [] => e
  | v :: vs => (wipeE e vs).set v none
/-- the block's own names are as they were -/
def restE (e0 e : Env) : List Nat → Env
  | [] => e
  | v :: vs => (restE e0 e vs).set v (match e0[v]? with
    | some (some d) => if d.isFz then some d else none
    | _ => none)
def lcLoop (g : GT) (c : SM Bool) (el : SE) (vs : List Nat) : List D → Env → List D → R (List D)
  | [], e, acc => .ok acc e
  | d :: ds, e, acc => match g d (wipeE e vs) with
    | some e1 => (match c e1 with
      | .ok b e2 => if b = true then (match el e2 with
        | .ok y e3 => if acc.length < sizeLine then lcLoop g c el vs ds e3 (acc ++ [y]) else .bad
        | _ => .bad) else lcLoop g c el vs ds e2 acc
      | _ => .bad)
    | none => .bad
def sLc (it : SI) (g : GT) (c : SM Bool) (el : SE) (vs : List Nat) : SE := fun e => (it e).bind fun ds e1 => (lcLoop g c el vs ds e1 []).bind fun acc e2 => .ok (.lst true acc) (restE e1 e2 vs)
def sYes : SM Bool := fun e => .ok true e
section
variable {K : PySem.W.Frag} {cv : Nat → Value} {W : WX}
theorem EnvR.wipe {H : Hp} {F : Addr → Prop} {σ : L2.St} {e : Env} {B : List Addr} (h : EnvR K H F σ e B) : ∀ vs : List Nat, ∃ B', EnvR K H F (L2.wipe σ vs) (wipeE e vs) B' ∧ B'.Sublist B
  | [] => ⟨B, h, .refl _⟩
  | v :: vs => by
    obtain ⟨B1, h1, h2⟩ := EnvR.wipe h vs
    obtain ⟨B2, h3, h4⟩ := EnvR.drop _ _ _ v none h1
    exact ⟨B2, h3, h4.trans h2⟩
theorem Wl.wipe {H : Hp} {F : Addr → Prop} {σ : L2.St} {e : Env} {B : List Addr} (w : Wl K σ H F e B) (vs : List Nat) : ∃ B', Wl K (L2.wipe σ vs) H F (wipeE e vs) B' ∧ B'.Sublist B := by
  obtain ⟨B', h1, h2⟩ := w.er.wipe vs
  exact ⟨B', ⟨h1, w.dis.sub h2, w.tr, w.tab⟩, h2⟩
theorem wipe_get {σ : L2.St} {j : Nat} : ∀ {vs : List Nat}, j ∉ vs → (L2.wipe σ vs)[j]? = σ[j]?
  | [], _ => rfl
  | v :: vs, h => by
    simp only [List.mem_cons, not_or] at h
    show ((L2.wipe σ vs).set v none)[j]? = _
    rw [List.getElem?_set_ne (fun e => h.1 e.symm), wipe_get h.2]
theorem wipe_in {σ : L2.St} {j : Nat} : ∀ {vs : List Nat}, j ∈ vs → j < σ.length → (L2.wipe σ vs)[j]? = some none
  | v :: vs, h, hj => by
    show ((L2.wipe σ vs).set v none)[j]? = _
    by_cases e : v = j
    · rw [e, List.getElem?_set_self (by rw [wipe_length]; exact hj)]
    · rw [List.getElem?_set_ne e]
      exact wipe_in ((List.mem_cons.mp h).resolve_left fun z => e z.symm) hj
theorem wipe_eq {σ σ' : L2.St} {vs : List Nat} (hl : σ'.length = σ.length) (h : ∀ j, j ∉ vs → σ'[j]? = σ[j]?) : L2.wipe σ' vs = L2.wipe σ vs := by
  apply List.ext_getElem?
  intro j
  by_cases hj : j ∈ vs
  · by_cases hlt : j < σ.length
    · rw [wipe_in hj (by omega), wipe_in hj hlt]
    · rw [List.getElem?_eq_none (by rw [wipe_length]; omega), List.getElem?_eq_none (by rw [wipe_length]; omega)]
  · rw [wipe_get hj, wipe_get hj, h j hj]
/-- not the block's own names -/
def kpv (vs : List Nat) : Nat → Bool := fun j => !vs.contains j
theorem kpv_wipe {σ σ2 : L2.St} {vs : List Nat} (k : Kp (kpv vs) (L2.wipe σ vs) σ2) : L2.wipe σ2 vs = L2.wipe σ vs := by
  refine wipe_eq (by rw [k.1, wipe_length]) fun j hj => ?_
  rw [k.2 j (by simp [kpv, hj]), wipe_get hj]
/-- the frozen ones come back -/
def fixS (σ σ1 : L2.St) : List Nat → L2.St
  | [] => σ1
  | v :: vs => (fixS σ σ1 vs).set v (σ[v]?.join)
theorem fixS_length (σ σ1 : L2.St) : ∀ vs : List Nat, (fixS σ σ1 vs).length = σ1.length
  | [] => rfl
  | v :: vs => by simp [fixS, fixS_length σ σ1 vs]
theorem fixS_get {σ σ1 : L2.St} {j : Nat} : ∀ {vs : List Nat}, (j ∉ vs → σ1[j]? = σ[j]?) → σ1.length = σ.length → (fixS σ σ1 vs)[j]? = σ[j]?
  | [], h, _ => h (by simp)
  | v :: vs, h, hl => by
    show ((fixS σ σ1 vs).set v _)[j]? = _
    by_cases e : v = j
    · subst e
      by_cases hv : v < σ.length
      · rw [List.getElem?_set_self (by rw [fixS_length, hl]; exact hv), List.getElem?_eq_getElem hv]
        rfl
      · rw [List.getElem?_eq_none (by rw [List.length_set, fixS_length]; omega), List.getElem?_eq_none (by omega)]
    · rw [List.getElem?_set_ne e]
      exact fixS_get (fun q => h fun z => (List.mem_cons.mp z).elim (fun z => e z.symm) q) hl
theorem EnvR.rest0 {H H0 : Hp} {F F0 : Addr → Prop} {σ σ1 : L2.St} {e0 e : Env} {B0 B : List Addr} (h0 : EnvR K H0 F0 σ e0 B0) (mono : ∀ v d, Fz K H0 F0 v d → Fz K H F v d) (h : EnvR K H F σ1 e B) : ∀ (vs : List Nat),
    ∃ B', EnvR K H F (fixS σ σ1 vs) (restE e0 e vs) B' ∧ Le B' B
  | [] => ⟨B, h, .refl⟩
  | v :: vs => by
    obtain ⟨B1, h1, h2⟩ := EnvR.rest0 h0 mono h vs
    obtain ⟨B2, h3, h4⟩ := EnvR.drop _ _ _ v (σ[v]?.join) h1
    simp only [restE, fixS]
    split
    · rename_i d q
      split
      · rename_i hz
        obtain ⟨x, A, B', g1, g2, g3, g4⟩ := EnvR.take _ _ _ v _ h0 q
        obtain ⟨rfl, g5⟩ := g2.isFz hz
        by_cases hv : v < (restE e0 e vs).length
        · obtain ⟨B3, h5, h6⟩ := EnvR.put (mono _ _ g5).ow _ _ _ v h3 (by simp [hv])
          rw [List.set_set, List.set_set] at h5
          rw [g1]
          exact ⟨B3, h5, (Le.perm h6).trans ((Le.of (by simpa using h4)).trans h2)⟩
        · have e1 : (restE e0 e vs).set v none = restE e0 e vs := List.set_eq_of_length_le (by omega)
          have e2 : (restE e0 e vs).set v (some d) = restE e0 e vs := List.set_eq_of_length_le (by omega)
          rw [e1] at h3
          rw [e2]
          exact ⟨B2, h3, (Le.of h4).trans h2⟩
      · exact ⟨B2, h3, (Le.of h4).trans h2⟩
    · exact ⟨B2, h3, (Le.of h4).trans h2⟩
theorem EnvR.rest {H H0 : Hp} {F F0 : Addr → Prop} {σ σ1 : L2.St} {e0 e : Env} {B0 B : List Addr} {vs : List Nat} (h0 : EnvR K H0 F0 σ e0 B0) (mono : ∀ v d, Fz K H0 F0 v d → Fz K H F v d) (h : EnvR K H F σ1 e B) (hj : ∀ j, j ∉ vs → σ1[j]? = σ[j]?) (hl : σ1.length = σ.length) :
    ∃ B', EnvR K H F σ (restE e0 e vs) B' ∧ Le B' B := by
  obtain ⟨B', h1, h2⟩ := EnvR.rest0 h0 mono h vs
  have : fixS σ σ1 vs = σ := List.ext_getElem? fun j => fixS_get (hj j) hl
  rw [this] at h1
  exact ⟨B', h1, h2⟩

theorem sLc_core {J : It} {H1 : Hp} {F1 : Addr → Prop} {B1 : List Addr} {env1 : Env} {ds : List PV.D} {g : GT} {c : SM Bool} {el : SE} {vs : List Nat} {σ : L2.St} {Q : VK} (w1 : Wl K σ H1 F1 env1 B1) (st : Steps K J H1 F1 B1 ds)
    (f1 : Fin K cv W (rD K) σ H1 F1 B1 Q ((lcLoop g c el vs ds env1 []).bind fun acc e2 => .ok (.lst true acc) (restE env1 e2 vs))) (D : Addr) (hD : H1 D = none) :
    ∃ Wv : Nat → Nat → Hp → Prop, (∃ m, Wv 0 m (upd H1 D (.lst []))) ∧ ∀ i m H, Wv i m H →
      (J.stop i H ∧ Q (.ref D) H) ∨ (J.go i H ∧ ∃ Nx : Hp → Prop, (∀ H', Nx H' → ∃ m', m' < m ∧ Wv (i + 1) m' H') ∧ ∀ x H', J.yld i H x H' → gT K (kpv vs) g x (L2.wipe σ vs) H' fun σ2 H2 => L2.wipe σ2 vs = L2.wipe σ vs ∧ sm K cv WF rB c σ2 H2 fun b H3 =>
        if b = true then sm K cv WF (rD K) el σ2 H3 fun y H4 => ∃ acc, H4 D = some (.lst acc) ∧ acc.length < sizeLine ∧ Nx (upd H4 D (.lst (acc ++ [y]))) else Nx H3) := by
  -- the state at a turn: the list at D, what it holds at Aa
  refine ⟨fun i m H' => m = ds.length - i ∧ i ≤ ds.length ∧ ∃ F' env' B' σ' acc Aa xs, Ext B1 H1 F1 H' F' ∧ Wl K σ' H' F' env' B' ∧ (∀ j, j ∉ vs → σ'[j]? = σ[j]?) ∧ σ'.length = σ.length ∧ Sub (Aa ++ B') B1 H1 ∧ H' D = some (.lst xs) ∧ OwL K H' F' xs acc Aa ∧ D ∉ Aa ∧ D ∉ B' ∧ ¬ F' D ∧ Dis F' (Aa ++ B') ∧
    Fin K cv W (rD K) σ H1 F1 B1 Q ((lcLoop g c el vs (ds.drop i) env' acc).bind fun acc e2 => .ok (.lst true acc) (restE env1 e2 vs)), ⟨ds.length, by simp, Nat.zero_le _, F1, env1, B1, σ, [], [], [], Ext.laid hD, w1.laid hD, fun _ _ => rfl, rfl, Sub.refl, upd_same, by simp [OwL], by simp, w1.notB hD, w1.notF hD, w1.dis, by simpa using f1⟩, ?_⟩
  rintro i m H' ⟨rfl, hi, F', env', B', σ', acc, Aa, xs, x, w, hσ, hl, s, hDx, oa, nDA, nDB, nDF, dd, f⟩
  by_cases hlt : i < ds.length
  · refine .inr ⟨st.go i H' F' x hlt, fun H2 => ∃ F' env' B' σ' acc Aa xs, Ext B1 H1 F1 H2 F' ∧ Wl K σ' H2 F' env' B' ∧ (∀ j, j ∉ vs → σ'[j]? = σ[j]?) ∧ σ'.length = σ.length ∧ Sub (Aa ++ B') B1 H1 ∧ H2 D = some (.lst xs) ∧ OwL K H2 F' xs acc Aa ∧ D ∉ Aa ∧ D ∉ B' ∧ ¬ F' D ∧ Dis F' (Aa ++ B') ∧
      Fin K cv W (rD K) σ H1 F1 B1 Q ((lcLoop g c el vs (ds.drop (i + 1)) env' acc).bind fun acc e2 => .ok (.lst true acc) (restE env1 e2 vs)), fun H2 q => ⟨_, by omega, rfl, hlt, q⟩, fun v H2 y => ?_⟩
    obtain ⟨d, hd, fz, x2⟩ := st.yld i H' F' v H2 x hlt y
    have e1 : ds.drop i = d :: ds.drop (i + 1) := by
      rw [List.getElem?_eq_getElem hlt] at hd
      cases hd
      exact List.drop_eq_getElem_cons hlt
    rw [e1] at f
    have hw : L2.wipe σ' vs = L2.wipe σ vs := wipe_eq hl hσ
    -- what is held: D's list
    have nil : ∀ {P : Prop} (c : Addr), c ∈ ([] : List Addr) → P := fun c z => by cases z
    have w2 : Wl K σ' H2 F' env' B' := w.ext x2 (fun _ _ z => nil _ z) fun _ _ z => nil _ z
    obtain ⟨Bw, w3, sw⟩ := w2.wipe vs
    rw [hw] at w3
    have oa2 : OwL K H2 F' xs acc Aa := OwL.ext x2 (fun _ _ z => nil _ z) _ _ _ (fun _ _ z => nil _ z) oa
    have hD2 : H2 D = some (.lst xs) := x2.lst D xs hDx (fun z => nil _ z)
    simp only [lcLoop] at f
    cases hg : g d (wipeE env' vs) with
    | none => rw [hg] at f; exact False.elim f
    | some e2 =>
      rw [hg] at f
      simp only [] at f
      refine ⟨F', wipeE env' vs, d, [], Bw, e2, w3, fz.ow, w3.dis, hg, fun σ3 H3 F3 B3 k3 x4 w4 s4 => ?_⟩
      refine ⟨kpv_wipe k3, ?_⟩
      have x4 : Ext Bw H2 F' H3 F3 := x4
      have s4 : Sub B3 Bw H2 := s4
      -- one step with the held list kept
      have hold : ∀ {Bx : List Addr} {Hx Hy : Hp} {Fx Fy : Addr → Prop} {By : List Addr}, Hx D = some (.lst xs) → OwL K Hx Fx xs acc Aa → Dis Fx (D :: Aa ++ Bx) → Ext Bx Hx Fx Hy Fy → Sub By Bx Hx → Dis Fy By → Hy D = some (.lst xs) ∧ OwL K Hy Fy xs acc Aa ∧ Dis Fy (D :: Aa ++ By) := by
        intro Bx Hx Hy Fx Fy By q1 q2 q3 y1 y2 y3
        have dl : ∀ c ∈ D :: Aa, c ∉ Bx := q3.apart
        have th : ∀ c ∈ D :: Aa, Hx c ≠ none := fun c hc => by
          rcases List.mem_cons.mp hc with rfl | hc
          · rw [q1]; simp
          · obtain ⟨zs, e⟩ := OwL.there _ _ _ q2 c hc
            rw [e]; simp
        refine ⟨y1.lst D xs q1 (dl D List.mem_cons_self), OwL.ext y1 q3.right.notF _ _ _ (fun c hc => dl c (List.mem_cons_of_mem _ hc)) q2, Dis.app ⟨q3.left.1, fun c hc z => ?_⟩ y3 fun c hc z => ?_⟩
        · rcases y1.new c z with q | q | q
          · exact q3.left.2 c hc q
          · exact dl c hc q
          · exact th c hc q
        · rcases y2 c z with q | q
          · exact dl c hc q
          · exact th c hc q
      have dBw : Dis F' (D :: Aa ++ Bw) := by
        refine ⟨List.nodup_cons.mpr ⟨fun z => (List.mem_append.mp z).elim nDA fun z => nDB (sw.subset z), (dd.sub (sw.append_left Aa)).1⟩, fun c hc => ?_⟩
        rcases List.mem_cons.mp hc with rfl | hc
        · exact nDF
        · exact (dd.sub (sw.append_left Aa)).2 c hc
      obtain ⟨hD3, oa3, d3⟩ := hold hD2 oa2 dBw x4 s4 w4.dis
      -- the whole way so far
      have way : ∀ {Hy : Hp} {Fy : Addr → Prop} {By : List Addr}, Ext Bw H2 F' Hy Fy → Sub By Bw H2 → Ext B1 H1 F1 Hy Fy ∧ Sub By B1 H1 := by
        intro Hy Fy By y1 y2
        have sB : Sub B' B1 H1 := s.right
        have z1 : Ext B1 H1 F1 H2 F' := x.trans (x2.wk (B1 := B') fun c z => nil c z) sB
        exact ⟨z1.trans y1 fun c hc => sB c (sw.subset hc), Sub.trans (fun c hc => sB c (sw.subset hc)) y2 z1.fr⟩
      refine ⟨F3, e2, B3, w4, ?_⟩
      cases hc : c e2 with
      | bad => rw [hc] at f; exact False.elim f
      | exc cc e' => rw [hc] at f; exact False.elim f
      | ok b e3 =>
        rw [hc] at f
        simp only [] at f
        intro vb H4 F4 A4 B4 x5 w5 p5 d5 s5
        obtain ⟨rfl, rfl⟩ := p5
        have s5 : Sub B4 B3 H3 := s5
        obtain ⟨hD4, oa4, d4⟩ := hold hD3 oa3 d3 x5 s5 w5.dis
        have y4 : Ext Bw H2 F' H4 F4 := x4.trans x5 s4
        have t4 : Sub B4 Bw H2 := s4.trans s5 x4.fr
        have hσ3 : ∀ j, j ∉ vs → σ3[j]? = σ[j]? := fun j hj => by rw [k3.2 j (by simp [kpv, hj]), wipe_get hj]
        have hl3 : σ3.length = σ.length := by rw [k3.1, wipe_length]
        cases vb with
        | false =>
          simp only [Bool.false_eq_true, if_false] at f ⊢
          obtain ⟨u1, u2⟩ := way y4 t4
          refine ⟨F4, e3, B4, σ3, acc, Aa, xs, u1, w5, hσ3, hl3, ?_, hD4, oa4, ?_, ?_, ?_, ?_, f⟩
          · exact Sub.app s.left u2
          · exact fun z => (List.nodup_cons.mp d4.1).1 (List.mem_append_left _ z)
          · exact fun z => (List.nodup_cons.mp d4.1).1 (List.mem_append_right _ z)
          · exact d4.2 D List.mem_cons_self
          · exact ⟨(List.nodup_cons.mp d4.1).2, fun c hc => d4.2 c (List.mem_cons_of_mem _ hc)⟩
        | true =>
          simp only [if_true] at f ⊢
          refine ⟨F4, e3, B4, w5, ?_⟩
          cases he : el e3 with
          | bad => rw [he] at f; exact False.elim f
          | exc cc e' => rw [he] at f; exact False.elim f
          | ok y e4 =>
            rw [he] at f
            simp only [] at f
            intro vy H5 F5 A5 B5 x6 w6 p6 d6 s6
            split at f
            · rename_i hz
              obtain ⟨hD5, oa5, d5'⟩ := hold hD4 oa4 d4 x6 s6 d6
              have y5 : Ext Bw H2 F' H5 F5 := y4.trans x6 t4
              have t5 : Sub (A5 ++ B5) Bw H2 := t4.trans s6 y4.fr
              have dz : Dis F5 (D :: (Aa ++ (A5 ++ B5))) := d5'
              have nD : D ∉ Aa ++ (A5 ++ B5) := (List.nodup_cons.mp dz.1).1
              have dr : Dis F5 (Aa ++ (A5 ++ B5)) := ⟨(List.nodup_cons.mp dz.1).2, fun c hc => dz.2 c (List.mem_cons_of_mem _ hc)⟩
              have xw : Ext [D] H5 F5 (upd H5 D (.lst (xs ++ [vy]))) F5 := Ext.wrote hD5 (by simp)
              have nF : ∀ c, F5 c → c ∉ [D] := fun c hc z => by
                simp at z; subst z
                exact dz.2 c List.mem_cons_self hc
              have off : ∀ {l : List Addr}, (∀ c ∈ l, c ∈ Aa ++ (A5 ++ B5)) → ∀ c ∈ l, c ∉ [D] := fun h c hc z => by
                simp at z; subst z
                exact nD (h c hc)
              refine ⟨xs, hD5, by rw [oa5.length]; exact hz, ?_⟩
              have sD : D ∈ ([D] : List Addr) := by simp
              refine ⟨F5, e4, B5, σ3, acc ++ [y], Aa ++ A5, xs ++ [vy], ?_, w6.ext xw (off fun c hc => by simp [hc]) nF, hσ3, hl3, ?_, upd_same, ?_, fun z => ?_, fun z => ?_, dz.2 D List.mem_cons_self, by rw [List.append_assoc]; exact dr, f⟩
              · have u1 := (way y5 t5).1
                refine ⟨fun a zs q => xw.tup a zs (u1.tup a zs q), fun a o u q => xw.frz a o u (u1.frz a o u q), fun a zs q nb => ?_, fun a q => u1.fr a (xw.fr a q), fun a q => xw.tab a (u1.tab a q), u1.mono, u1.new, fun a q n z => u1.tr a q n (xw.fr a z)⟩
                refine xw.lst a zs (u1.lst a zs q nb) fun z => ?_
                simp at z; subst z
                rw [hD] at q; cases q
              · rw [List.append_assoc]
                exact Sub.app s.left (way y5 t5).2
              · refine OwL.ext xw nF _ _ _ (off fun c hc => ?_) (oa5.append ?_)
                · rcases List.mem_append.mp hc with z | z <;> simp [z]
                · simp only [OwL]
                  exact ⟨vy, [], A5, [], rfl, by simp, p6, rfl, rfl⟩
              · exact nD (by rcases List.mem_append.mp z with z | z <;> simp [z])
              · exact nD (by simp [z])
            · exact False.elim f
  · have e : i = ds.length := by omega
    subst e
    rw [List.drop_length] at f
    refine .inl ⟨st.stop H' F' x, ?_⟩
    simp only [lcLoop, R.bind] at f
    obtain ⟨Br, r1, r2⟩ := EnvR.rest (e0 := env1) (H := H') (F := F') w1.er (fun v d q => Fz.ext x w1.dis.notF _ _ q) w.er hσ hl
    have dd2 : Dis F' (Aa ++ Br) := Le.dis r2.app dd
    refine f (.ref D) H' F' (D :: Aa) Br x ⟨r1, dd2.right, w.tr, w.tab⟩ ?_ ?_ fun c hc => ?_
    · show Ow K _ _ _ _ _
      simp only [Ow]
      exact ⟨D, xs, Aa, rfl, hDx, rfl, oa⟩
    · refine ⟨List.nodup_cons.mpr ⟨fun z => ?_, dd2.1⟩, fun c hc => ?_⟩
      · exact (List.mem_append.mp z).elim nDA fun z => nDB (r2.2 D z)
      · rcases List.mem_cons.mp hc with rfl | hc
        · exact nDF
        · exact dd2.2 c hc
    · rcases List.mem_cons.mp hc with rfl | hc
      · exact .inr hD
      · rcases List.mem_append.mp hc with z | z
        · exact s c (List.mem_append_left _ z)
        · exact s c (List.mem_append_right _ (r2.2 c z))
theorem sLc_read {it : SI} {g : GT} {c : SM Bool} {el : SE} {vs : List Nat} {σ : L2.St} {H : Hp} {Q : VK} (h : sm K cv W (rD K) (sLc it g c el vs) σ H Q) :
    tLc (si K cv W it) (gT K (kpv vs) g) (sm K cv WF rB c) (sm K cv WF (rD K) el) vs σ H Q := by
  obtain ⟨F0, env0, B0, w0, f0⟩ := h
  refine ⟨F0, env0, B0, w0, ?_⟩
  simp only [sLc] at f0
  cases e0 : it env0 with
  | bad => rw [e0] at f0; exact f0
  | exc c e' => rw [e0] at f0; exact f0
  | ok ds env1 =>
    rw [e0] at f0
    intro J H1 F1 B1 x1 w1 s1 st D hD
    exact sLc_core w1 st (Fin.step x1 s1 f0) D hD
end
section
variable {X : Cx} {cv : Nat → Value} {W : WX}
theorem qts_nil {W : WX} : PTs X [] (sm X.K cv W rB sYes) := ⟨fun pins s σ H Q I hw => pts_nil.run pins s σ H Q I (by
  obtain ⟨F, env, B, w, f⟩ := hw
  exact f true H F [] B Ext.refl w ⟨rfl, rfl⟩ w.dis Sub.refl)⟩
theorem px_lc {elt tg iter : Expr} {ifs : List Expr} {scope : Scope} {own : List (Str × Nat)} {pos : Pos} {it : SI} {g : GT} {c : SM Bool} {el : SE} (hc : X.calm = true) (hN : X.N.Nodup) (hi : PI X tg iter (si X.K cv W it)) (ok : BlkOk X.N X.env.scope scope own)
    (hg : ∀ (s : Shared) (H : Hp) (C : Addr) (cl : List (Str × Addr)) (fp : List Addr), PG (X.blk s H scope (compEnvC scope cl C X.env) fp) tg (gT X.K (kpv (own.map (·.2))) g))
    (ht : ∀ (s : Shared) (H : Hp) (C : Addr) (cl : List (Str × Addr)) (fp : List Addr), PTs (X.blk s H scope (compEnvC scope cl C X.env) fp) ifs (sm X.K cv WF rB c))
    (he : ∀ (s : Shared) (H : Hp) (C : Addr) (cl : List (Str × Addr)) (fp : List Addr), PE (X.blk s H scope (compEnvC scope cl C X.env) fp) elt (sm X.K cv WF (rD X.K) el)) (hs : ∀ x, foldedSetIterable iter X.env x = pure x) :
    PE X (.ListComp elt [⟨tg, iter, ifs, 0⟩] scope pos) (sm X.K cv W (rD X.K) (sLc it g c el (own.map (·.2)))) :=
  (pe_lc hc hN hi ok hg ht he hs).imp fun σ H Q => sLc_read
end
end PV
set_option Elab.async false
set_option linter.all false
set_option maxRecDepth 100000
set_option maxHeartbeats 4000000
namespace PV
open PySem PySem.Spec PyProof.Rows L2
variable [Tabs]

/-! ## lists changed in place -/
section
variable {K : PySem.W.Frag} {cv : Nat → Value} {W : WX} {kp : Nat → Bool} {σ : L2.St} {H : Hp} {F : Addr → Prop} {env : Env} {B A : List Addr}
/-- a list that is held by a slot alone -/
theorem Wl.focus {i : Nat} {l : List D} (w : Wl K σ H F env B) (q : env[i]? = some (some (.lst true l))) :
    ∃ a xs As B', σ[i]? = some (some (.ref a)) ∧ H a = some (.lst xs) ∧ OwL K H F xs l As ∧ B.Perm (a :: As ++ B') ∧ Wl K σ H F (env.set i none) B' := by
  obtain ⟨v, A, B', h1, h2, h3, h4⟩ := EnvR.take _ _ _ i _ w.er q
  simp only [Ow] at h2
  obtain ⟨a, xs, As, rfl, e, rfl, r⟩ := h2
  exact ⟨a, xs, As, B', h1, e, r, h3, h4, (w.dis.perm h3).right, w.tr, w.tab⟩
theorem Wl.refill {i : Nat} {a : Addr} {xs ys : List V} {l : List D} {As : List Addr} (hi : i < env.length) (hs : σ[i]? = some (some (.ref a))) (w : Wl K σ H F (env.set i none) B) (e : H a = some (.lst xs)) (o : OwL K H F ys l As) (d : Dis F (a :: As ++ B)) :
    ∃ B', Wl K σ (upd H a (.lst ys)) F (env.set i (some (.lst true l))) B' ∧ B'.Perm (a :: As ++ B) := by
  have d : Dis F (a :: (As ++ B)) := d
  have na : a ∉ As ++ B := (List.nodup_cons.mp d.1).1
  have x : Ext [a] H F (upd H a (.lst ys)) F := Ext.wrote e (by simp)
  have nF : ∀ c, F c → c ∉ [a] := fun c h z => by
    simp at z; subst z
    exact d.2 c List.mem_cons_self h
  have off : ∀ {m : List Addr}, (∀ c ∈ m, c ∈ As ++ B) → ∀ c ∈ m, c ∉ [a] := fun h c hc z => by
    simp at z; subst z
    exact na (h c hc)
  have w2 := w.ext x (off fun c hc => List.mem_append_right _ hc) nF
  have o2 : Ow K (upd H a (.lst ys)) F (.ref a) (.lst true l) (a :: As) := by
    simp only [Ow]
    exact ⟨a, ys, As, rfl, upd_same, rfl, OwL.ext x nF _ _ _ (off fun c hc => List.mem_append_left _ hc) o⟩
  obtain ⟨B2, h1, h2⟩ := EnvR.put o2 _ _ _ i w2.er (by simp [hi])
  rw [set_same hs, List.set_set] at h1
  exact ⟨B2, ⟨h1, d.perm h2.symm, w2.tr, w2.tab⟩, h2⟩
theorem OwL.last : ∀ {l : List D} {xs : List V} {As : List Addr} {d : D}, OwL K H F xs (l ++ [d]) As → ∃ ys y A1 A2, xs = ys ++ [y] ∧ As = A1 ++ A2 ∧ OwL K H F ys l A1 ∧ Ow K H F y d A2
  | [], xs, As, d, h => by
    simp only [List.nil_append, OwL] at h
    obtain ⟨y, xs', A1, A2, rfl, rfl, h1, rfl, rfl⟩ := h
    exact ⟨[], y, [], A1, rfl, by simp, by simp [OwL], h1⟩
  | d0 :: l, xs, As, d, h => by
    simp only [List.cons_append, OwL] at h
    obtain ⟨y, xs', A1, A2, rfl, rfl, h1, h2⟩ := h
    obtain ⟨ys, z, A3, A4, rfl, rfl, h3, h4⟩ := OwL.last h2
    exact ⟨y :: ys, z, A1 ++ A3, A4, rfl, by simp, by simp only [OwL]; exact ⟨y, ys, A1, A3, rfl, rfl, h1, h3⟩, h4⟩
theorem OwL.setAt : ∀ {l : List D} {xs : List V} {As : List Addr} {y : V} {d : D} {Ad : List Addr} (j : Nat), OwL K H F xs l As → Ow K H F y d Ad → ∃ As', OwL K H F (xs.set j y) (l.set j d) As' ∧ Le As' (Ad ++ As)
  | [], xs, As, y, d, Ad, j, h, o => by
    simp only [OwL] at h
    obtain ⟨rfl, rfl⟩ := h
    exact ⟨[], by simp [OwL], ⟨fun _ => List.nodup_nil, fun _ z => by cases z⟩⟩
  | d0 :: l, xs, As, y, d, Ad, 0, h, o => by
    simp only [OwL] at h
    obtain ⟨x, xs', A1, A2, rfl, rfl, h1, h2⟩ := h
    exact ⟨Ad ++ A2, by simp only [List.set_cons_zero, OwL]; exact ⟨y, xs', Ad, A2, rfl, rfl, o, h2⟩, (Le.of (List.sublist_append_right ..)).app⟩
  | d0 :: l, xs, As, y, d, Ad, j + 1, h, o => by
    simp only [OwL] at h
    obtain ⟨x, xs', A1, A2, rfl, rfl, h1, h2⟩ := h
    obtain ⟨As', h3, h4⟩ := OwL.setAt j h2 o
    refine ⟨A1 ++ As', by simp only [List.set_cons_succ, OwL]; exact ⟨x, _, A1, As', rfl, rfl, h1, h3⟩, ?_⟩
    refine h4.app.trans (Le.perm ?_)
    rw [← List.append_assoc, ← List.append_assoc]
    exact List.perm_append_comm.append_right A2
end
/-! pop -/
def popL (l : List D) : Option (List D × D) := match l.reverse with
  | d :: r => some (r.reverse, d)
  | [] => none
theorem popL_eq {l l' : List D} {d : D} (h : popL l = some (l', d)) : l = l' ++ [d] := by
  unfold popL at h
  split at h
  · rename_i x r e
    cases h
    have := congrArg List.reverse e
    simpa using this
  · cases h
def sPop (i : Nat) : SE := fun e => match e[i]? with
  | some (some (.lst true l)) => (match popL l with
    | some (l', d) => .ok d (e.set i (some (.lst true l')))
    | none => .bad)
  | _ => .bad
section
variable {X : Cx} {cv : Nat → Value} {W : WX} {kp : Nat → Bool}
theorem len_of {i : Nat} {e : Env} {o : Option D} (h : e[i]? = some o) : i < e.length := (List.getElem?_eq_some_iff.mp h).1
theorem px_pop {i : Nat} {x : Str} {p apos cpos : Pos} (hN : X.N[i]? = some x) (hv : Vis X.env.scope x) (hd : (x == ("__debug__" : Str)) = false) (hcd : (x == ("__classdict__" : Str)) = false)
    (hbase : attributeBase (.Name x p) "pop" X.env (eval (.Name x p) X.env) = eval (.Name x p) X.env) (hline : (apos.endLine == cpos.line) = true) :
    PE X (.Call (.Attribute (.Name x p) "pop" apos) [] [] cpos) (sm X.K cv W (rD X.K) (sPop i)) :=
  (pe_bm0 PySem.F.plainAttrs_list PySem.F.slot_list_pop PySem.F.type_list_pop mt_pop (pe_var hN hv hd hcd) hbase hline).imp fun σ H Q ⟨F, env, B, w, f⟩ => by
    simp only [sPop] at f
    split at f
    · rename_i l q
      split at f
      · rename_i l' d q2
        obtain ⟨a, xs, As, B', h1, h2, h3, h4, h5⟩ := w.focus q
        rw [popL_eq q2] at h3
        obtain ⟨ys, y, A1, A2, rfl, rfl, o1, o2⟩ := h3.last
        have dd : Dis F (a :: (A1 ++ A2) ++ B') := w.dis.perm h4
        have d1 : Dis F (a :: A1 ++ (A2 ++ B')) := by simpa using dd
        have d2 : Dis F (a :: A1 ++ B') := Dis.app d1.left d1.right.right fun c hc z => d1.apart c hc (List.mem_append_right _ z)
        obtain ⟨B2, w2, p2⟩ := Wl.refill (ys := ys) (len_of q) h1 h5 h2 o1 d2
        refine ⟨.ref a, h1, .inl ⟨rfl, _, SqL.of h2⟩, a, ys ++ [y], y, rfl, rfl, h2, by simp, ?_⟩
        rw [show (ys ++ [y]).dropLast = ys by simp]
        have x : Ext [a] H F (upd H a (.lst ys)) F := Ext.wrote h2 (by simp)
        have nA2 : a ∉ A2 := fun z => d1.apart a List.mem_cons_self (List.mem_append_left _ z)
        have mB : ∀ c, c ∈ a :: (A1 ++ A2) ++ B' → c ∈ B := fun c h => h4.mem_iff.mpr h
        refine f y _ F A2 B2 (x.wk fun c hc => mB c (by simp at hc; simp [hc])) w2 ?_ ?_ fun c hc => .inl (mB c ?_)
        · exact Ow.ext x (fun c hc z => by simp at z; subst z; exact d1.2 c (by simp) hc) _ _ _ (fun c hc z => by simp at z; subst z; exact nA2 hc) o2
        · refine Dis.app d1.right.left w2.dis fun c hc z => ?_
          rcases List.mem_append.mp (p2.mem_iff.mp z) with z | z
          · exact d1.apart c z (List.mem_append_left _ hc)
          · exact d1.right.apart c hc z
        · rcases List.mem_append.mp hc with z | z
          · simp [z]
          · have := p2.mem_iff.mp z
            simp at this ⊢
            rcases this with z | z | z <;> simp [z]
      · exact False.elim f
    · exact False.elim f
/-! append -/
def sApnd (i : Nat) (s : SE) : SE := fun e => match e[i]? with
  | some (some (.lst _ _)) => (s e).bind fun d e1 => match e1[i]? with
    | some (some (.lst true l)) => if l.length < sizeLine then .ok .non (e1.set i (some (.lst true (l ++ [d])))) else .bad
    | _ => .bad
  | _ => .bad
theorem px_append {i : Nat} {x : Str} {e : Expr} {s : SE} {p apos cpos : Pos} (hN : X.N[i]? = some x) (hv : Vis X.env.scope x) (hd : (x == ("__debug__" : Str)) = false) (hcd : (x == ("__classdict__" : Str)) = false) (he : PE X e (sm X.K cv W (rD X.K) s)) (hs : notStar e = true)
    (hbase : attributeBase (.Name x p) "append" X.env (eval (.Name x p) X.env) = eval (.Name x p) X.env)
    (hfew : ((backTo cpos (starEach [e] X.env)).all (fun x => !x.1) && (backToKw cpos (keywordEach [] X.env)).all (fun x => x.1.isSome)
      && decide ([e].length + ([] : List Keyword).length + (if ([] : List Keyword).isEmpty then 0 else 1) < 30)) = true) (hline : (apos.endLine == cpos.line) = true) :
    PE X (.Call (.Attribute (.Name x p) "append" apos) [e] [] cpos) (sm X.K cv W (rD X.K) (sApnd i s)) :=
  (pe_bm (r := rAppend) PySem.F.plainAttrs_list PySem.F.slot_list_append PySem.F.type_list_append mt_append (pe_var hN hv hd hcd) (pa_cons he pa_nil (star_cons hs)) hbase hfew hline (star_cons hs)).imp fun σ H Q ⟨F0, env0, B0, w0, f0⟩ => by
    simp only [sApnd] at f0
    split at f0
    · rename_i o0 l0 q0
      obtain ⟨v0, h0, ob0⟩ := env_get (i := i) (d := .lst o0 l0) w0 (by simp only [qVar, q0])
      obtain ⟨a0, xs0, rfl, g1, _⟩ := ob0.lst
      refine ⟨_, h0, .inl ⟨rfl, _, SqL.of g1⟩, ?_⟩
      refine (sm.run0 (P := rD X.K) (m := s) ⟨F0, env0, B0, w0, f0⟩).mono fun v H1 ⟨F, env, d, A, B, w, p, dd, f⟩ => ?_
      split at f
      · rename_i l q
        split at f
        · rename_i hl
          obtain ⟨a, xs, As, B', h1, h2, h3, h4, h5⟩ := w.focus q
          rw [h1] at h0
          cases h0
          have dA : Dis F (A ++ (a0 :: As ++ B')) := dd.perm (h4.append_left A)
          have p' : Ow X.K H1 F v d A := p
          have o2 : OwL X.K H1 F (xs ++ [v]) (l ++ [d]) (As ++ A) := h3.append (by simp only [OwL]; exact ⟨v, [], A, [], rfl, by simp, p', rfl, rfl⟩)
          have d2 : Dis F (a0 :: (As ++ A) ++ B') := dA.perm (by
            simp only [List.cons_append, List.append_assoc]
            refine List.perm_middle.trans (List.Perm.cons _ ?_)
            rw [← List.append_assoc, ← List.append_assoc]
            exact List.perm_append_comm.append_right B')
          obtain ⟨B2, w2, p2⟩ := Wl.refill (len_of q) h1 h5 h2 o2 d2
          refine ⟨a0, xs, v, rfl, rfl, h2, by rw [h3.length]; exact hl, ?_⟩
          have x : Ext [a0] H1 F (upd H1 a0 (.lst (xs ++ [v]))) F := Ext.wrote h2 (by simp)
          have mB : ∀ c, c ∈ a0 :: (As ++ A) ++ B' → c ∈ A ++ B := fun c h => by
            have h' : c = a0 ∨ c ∈ As ∨ c ∈ A ∨ c ∈ B' := by simpa [or_assoc] using h
            simp only [List.mem_append, h4.mem_iff]
            rcases h' with z | z | z | z <;> simp [z]
          exact f .non _ F [] B2 (x.wk fun c hc => mB c (by simp at hc; simp [hc])) w2 (show Ow _ _ _ _ _ _ by simp [Ow]) w2.dis fun c hc => .inl (mB c (p2.mem_iff.mp (by simpa using hc)))
        · exact False.elim f
      · exact False.elim f
    · exact False.elim f0
/-! a[i] = e -/
def sStore (i : Nat) (ix : SE) (s : SE) : SS := fun e => (s e).toS fun d e1 => match e1[i]? with
  | some (some _) => (ix e1).toS fun k e2 => match k with
    | .int k => (match e2[i]? with
      | some (some (.lst true l)) => (match ixN l.length k with
        | some j => .nx (e2.set i (some (.lst true (l.set j d))))
        | none => .bad)
      | _ => .bad)
    | _ => .bad
  | _ => .bad
theorem qs_store {i : Nat} {x : Str} {ei e : Expr} {ix s : SE} {p tpos pos : Pos} (hN : X.N[i]? = some x) (hv : Vis X.env.scope x) (hd : (x == ("__debug__" : Str)) = false) (hcd : (x == ("__classdict__" : Str)) = false) (he : PE X e (sm X.K cv W (rD X.K) s)) (hi : PE X ei (sm X.K cv W (rD X.K) ix))
    (ha : ∀ v, assign (.Subscript (.Name x p) ei tpos) X.env v = (do
      let ov ← holding [v] (eval (.Name x p) X.env)
      let iv ← holding [v, ov] (eval ei X.env)
      standAt tpos
      holding [v, ov, iv] (setItem ov iv v)
      release [v, ov, iv] []))
    (hs : swapsWithSole [.Subscript (.Name x p) ei tpos] e pos.line X.env = pure false) (hw : swappedStores [.Subscript (.Name x p) ei tpos] e X.env = pure none)
    (h1 : (assignEach [.Subscript (.Name x p) ei tpos] X.env).map (·.2) = [assign (.Subscript (.Name x p) ei tpos) X.env]) :
    PS X (.Assign [.Subscript (.Name x p) ei tpos] e pos) (ss X.K cv W kp (sStore i ix s)) :=
  (ps_asg he (pg_sub (pe_var hN hv hd hcd) hi set_list ha) hs hw h1).imp fun De σ H h => (sm.runS (P := rD X.K) (m := s) h).mono fun v H1 ⟨F1, env1, d, A1, B1, w, p, dd, f⟩ => by
    split at f
    · rename_i d0 q0
      obtain ⟨v0, h0, ob0⟩ := env_get (i := i) (d := d0) w (by simp only [qVar, q0])
      refine ⟨v0, h0, ?_⟩
      refine (sm.runSh (P := rD X.K) (m := ix) (st_D.h σ v d) w p dd f).mono fun vk H2 ⟨F2, env2, k, A2, B2, w2, p2, pk, d2, f2⟩ => ?_
      cases k <;> try (exact False.elim f2)
      rename_i k
      simp only [] at f2
      split at f2
      · rename_i l q
        split at f2
        · rename_i j hj
          obtain ⟨a, xs, As, B', g1, g2, g3, g4, g5⟩ := w2.focus q
          rw [g1] at h0
          cases h0
          have ek : vk = .int k := ow_int pk
          have dA : Dis F2 (A1 ++ B2) := Dis.app d2.left d2.right.right fun c hc z => d2.apart c hc (List.mem_append_right _ z)
          have dA2 : Dis F2 (A1 ++ (a :: As ++ B')) := dA.perm (g4.append_left A1)
          obtain ⟨As', o3, le3⟩ := OwL.setAt j g3 p2
          have d3 : Dis F2 (a :: As' ++ B') := by
            have dp : Dis F2 (a :: ((A1 ++ As) ++ B')) := dA2.perm (by
              simp only [List.cons_append, List.append_assoc]
              exact List.perm_middle)
            have l4 : Le (a :: (As' ++ B')) (a :: ((A1 ++ As) ++ B')) := by
              have q1 : Le (As' ++ B') ((A1 ++ As) ++ B') := (Le.perm List.perm_append_comm).trans (le3.app.trans (Le.perm List.perm_append_comm))
              exact q1.app (C := [a])
            exact Le.dis l4 dp
          obtain ⟨B3, w3, p3⟩ := Wl.refill (len_of q) g1 g5 g2 o3 d3
          refine ⟨a, xs, k, j, rfl, ek, g2, by rw [g3.length]; exact hj, ?_⟩
          have x : Ext [a] H2 F2 (upd H2 a (.lst (xs.set j v))) F2 := Ext.wrote g2 (by simp)
          have mB : ∀ c, c ∈ a :: As' ++ B' → c ∈ A1 ++ (A2 ++ B2) := fun c h => by
            have z : c = a ∨ c ∈ A1 ++ As ∨ c ∈ B' := by
              rcases List.mem_append.mp h with h | h
              · rcases List.mem_cons.mp h with h | h
                · exact .inl h
                · exact .inr (.inl (le3.2 c h))
              · exact .inr (.inr h)
            simp only [List.mem_append, g4.mem_iff] at z ⊢
            simp
            rcases z with z | (z | z) | z <;> simp [z]
          exact f2 σ _ F2 B3 Kp.refl (x.wk fun c hc => mB c (by simp at hc; simp [hc])) w3 fun c hc => .inl (mB c (p3.mem_iff.mp hc))
        · exact False.elim f2
      · exact False.elim f2
    · exact False.elim f
/-! name op= e -/
def sAugN (i : Nat) (s : SE) (f : D → D → Option D) : SS := fun e => match e[i]? with
  | some (some _) => sAug i s f e
  | _ => .bad
theorem qs_aug {i : Nat} {x : Str} {e : Expr} {s : SE} {op : Operator} {r : R2} {f : D → D → Option D} {p' pos : Pos} (hk : kp i = false) (hN : X.N.Nodup) (hi : X.N[i]? = some x) (hx : Loc X.env.scope x) (ho : OpR X (inplaceOp op) r) (hr : Rule2 X.K f r) (he : PE X e (sm X.K cv W (rD X.K) s))
    (hf : X.fn x = true ∨ X.env.scope.names.lookup x = some .local) : PS X (.AugAssign (.Name x p') op e pos) (ss X.K cv W kp (sAugN i s f)) :=
  (ps_aug (ti := r) hN hi hx he ho hf).imp fun De σ H ⟨F0, env0, B0, w0, f0⟩ => by
    simp only [sAugN] at f0
    split at f0
    · rename_i d0 q0
      obtain ⟨v0, h0, _⟩ := env_get (i := i) (d := d0) w0 (by simp only [qVar, q0])
      refine ⟨v0, h0, ?_⟩
      refine (sm.runS (P := rD X.K) (m := s) ⟨F0, env0, B0, w0, f0⟩).mono fun v H1 ⟨F1, env1, d, A1, B1, w, p, dd, fn⟩ => ?_
      split at fn
      · rename_i x q
        split at fn
        · rename_i z hz
          obtain ⟨v1, g1, ob⟩ := env_get (i := i) (d := x) w (by simp only [qVar, q])
          rw [h0] at g1
          cases g1
          have t : ∀ c ∈ A1, H1 c ≠ none := there_D p
          obtain ⟨Ax, ox, mx⟩ := ob
          have w' := w.freeze dd t
          obtain ⟨v2, g2, ob2⟩ := env_get (i := i) (d := x) w' (by simp only [qVar, q])
          rw [h0] at g2
          cases g2
          refine hr (Q := fun z H2 => De.nx (σ.set i (some z)) H2) (W := W) (cv := cv) w dd t ob2 ((Ow.fz (F' := fun a => F1 a ∨ a ∈ A1) (fun _ h => .inl h) _ _ _ p (fun _ h => .inr h)).owB) hz ?_
          exact fun v' H' F' A' B' x' w2 p2 d2 s2 => put_read hk w2 p2 d2 (FinS.step Kp.refl x' s2 fn)
        · exact False.elim fn
      · exact False.elim fn
    · exact False.elim f0
/-! slices -/
def rO : Rp (Option Int) (Option Int) := fun _ _ _ v b A => v = b ∧ A = []
theorem st_O : StR rO := ⟨fun h _ _ _ => h, fun h c hc => by rw [h.2] at hc; cases hc⟩
theorem _root_.L2.PO.imp {X : Cx} {e : Option Expr} {t t' : TO} (h : PO X e t) (i : ∀ σ H Q, t' σ H Q → t σ H Q) : PO X e t' := ⟨fun pins s σ H Q I hw => h.run pins s σ H Q I (i σ H Q hw)⟩
def sNoP : SM (Option Int) := fun e => .ok none e
def sSomP (s : SE) : SM (Option Int) := fun e => (s e).bind fun d e1 => match d with
  | .int i => .ok (some i) e1
  | _ => .bad
theorem qo_none : PO X none (sm X.K cv W rO sNoP) := po_none.imp fun σ H Q ⟨F, env, B, w, f⟩ => f none H F [] B Ext.refl w ⟨rfl, rfl⟩ w.dis Sub.refl
theorem qo_some {e : Expr} {s : SE} (he : PE X e (sm X.K cv W (rD X.K) s)) : PO X (some e) (sm X.K cv W rO (sSomP s)) :=
  (po_some he).imp fun σ H Q h => (sm.run0 (P := rD X.K) (m := s) h).mono fun v H1 ⟨F2, env2, x, A2, B2, w2, p2, d2, f2⟩ => by
    cases x <;> try (exact False.elim f2)
    rename_i i
    have p2' : Ow X.K H1 F2 v (.int i) A2 := p2
    simp only [Ow] at p2'
    obtain ⟨rfl, rfl⟩ := p2'
    exact ⟨i, rfl, f2 (some i) H1 F2 [] B2 Ext.refl w2 ⟨rfl, rfl⟩ w2.dis Sub.refl⟩
def cutD (l : List D) (lo hi : Option Int) : List D := (l.drop (HT.sIx l.length 0 lo)).take (HT.sIx l.length l.length hi - HT.sIx l.length 0 lo)
theorem FzL.cut {K : PySem.W.Frag} {H : Hp} {F : Addr → Prop} {l : List D} {xs : List V} (h : FzL K H F xs l) (lo hi : Option Int) : FzL K H F (cutV xs lo hi) (cutD l lo hi) := by
  unfold cutV cutD
  rw [h.length]
  exact (h.drop _).take _
def fSl : D → Option Int → Option Int → Option D
  | .tup l, lo, hi => some (.tup (cutD l lo hi))
  | .lst _ l, lo, hi => if isFzs l then some (.lst true (cutD l lo hi)) else none
  | .str z, lo, hi => if decide (z.length ≤ sizeLine) then some (.str (cutS z lo hi)) else none
  | .scr l, lo, hi => some (.lst true (cutD l lo hi))
  | _, _, _ => none
def sSl (o : SO) (lo hi : SM (Option Int)) : SE := fun e => (o e).bind fun a e1 => (lo e1).bind fun x e2 => (hi e2).bind fun y e3 => match rsv e3 a with
  | some d => (match fSl d x y with
    | some r => .ok r e3
    | none => .bad)
  | none => .bad
theorem sIx_all {n : Nat} {lo hi : Option Int} {α : Type} {l : List α} (h : HT.sIx l.length 0 lo = 0 ∧ HT.sIx l.length l.length hi = l.length) : (l.drop (HT.sIx l.length 0 lo)).take (HT.sIx l.length l.length hi - HT.sIx l.length 0 lo) = l := by
  rw [h.1, h.2]; simp
theorem px_sl {e : Expr} {lo hi : Option Expr} {o : SO} {ml mh : SM (Option Int)} {p2 pos : Pos} (he : PE X e (sm X.K cv W (rA X.K) o)) (hl : PO X lo (sm X.K cv W rO ml)) (hh : PO X hi (sm X.K cv W rO mh)) :
    PE X (.Subscript e (.Slice lo hi none p2) pos) (sm X.K cv W (rD X.K) (sSl o ml mh)) :=
  (pe_slice (sl_list.or (sl_tupA.or sl_str)) he hl hh).imp fun σ H Q h => (sm.run0 (P := rA X.K) (m := o) h).mono fun v H1 ⟨F1, env1, a, A1, B1, w1, p1, d1, f1⟩ =>
    (sm.run (P := rO) (m := ml) (st_A.h σ v a) w1 p1 d1 f1).mono fun x H2 ⟨F2, env2, x', A2, B2, w2, p2, px, d2, f2⟩ => by
      obtain ⟨rfl, rfl⟩ := px
      refine (sm.run (P := rO) (m := mh) (st_A.h σ v a) w2 p2 d2 f2).mono fun y H3 ⟨F3, env3, y', A3, B3, w3, p3, py, d3, f3⟩ => ?_
      obtain ⟨rfl, rfl⟩ := py
      split at f3
      · rename_i d q
        have t : ∀ c ∈ A1, H3 c ≠ none := st_A.there p3
        have ob := rsv_ok (w3.freeze d3 t) (fun c h => .inl h) (fun c h => .inr h) p3 q
        split at f3
        · rename_i r hr
          cases d <;> try (cases hr; done)
          · rename_i z
            simp only [fSl] at hr
            split at hr
            · rename_i hz
              cases hr
              exact .inr (.inr ⟨z, ob.str, of_decide_eq_true hz, fin_val w3 d3 t f3 fz_str⟩)
            · cases hr
          · rename_i l
            cases hr
            obtain ⟨b, xs, rfl, g1, g2⟩ := ob.tup
            refine .inr (.inl ⟨b, xs, rfl, g1, fun hw => ?_, fun _ p hp => Fin.newT hp w3 d3 t f3 (g2.cut x y)⟩)
            refine fin_val w3 d3 t f3 ?_
            simp only [Fz]
            refine ⟨b, xs, rfl, g1, ?_⟩
            have := g2.cut x y
            rw [show cutV xs x y = xs from sIx_all (n := 0) hw] at this
            exact this
          · rename_i o l
            simp only [fSl] at hr
            split at hr
            · rename_i hz
              cases hr
              obtain ⟨b, xs, rfl, g1, _, g2⟩ := ob.lst
              exact .inl ⟨b, xs, rfl, SqL.of g1, fun p hp => Fin.newL hp w3 d3 t f3 ((g2 hz).cut x y)⟩
            · cases hr
          · rename_i l
            cases hr
            obtain ⟨b, xs, rfl, g1, g2⟩ := ob.scr
            exact .inl ⟨b, xs, rfl, g1, fun p hp => Fin.newL hp w3 d3 t f3 (g2.cut x y)⟩
        · exact False.elim f3
      · exact False.elim f3
/-! list(reversed(e)) -/
def fLRev : D → Option D
  | .lst _ l => if isFzs l then some (.lst true l.reverse) else none
  | _ => none
theorem px_lstRev {e : Expr} {o : SO} {p p2 pos pos2 : Pos} (hc : X.calm = true) (hg : Gl X "list") (hm : X.mg "list" = none) (hg2 : Gl X "reversed") (hm2 : X.mg "reversed" = none) (hs : notStar e = true) (he : PE X e (sm X.K cv W (rA X.K) o)) :
    PE X (.Call (.Name "list" p) [.Call (.Name "reversed" p2) [e] [] pos2] [] pos) (sm X.K cv W (rD X.K) (sOne o fLRev)) :=
  (pe_lstRev hc hg hm hg2 hm2 he (star_cons hs)).imp fun σ H Q h => (sm.run0 (P := rA X.K) (m := o) h).mono fun v H1 ⟨F2, env2, a, A2, B2, w2, p2, d2, f2⟩ => by
    split at f2
    · rename_i x q
      have t : ∀ c ∈ A2, H1 c ≠ none := st_A.there p2
      have ob := rsv_ok (w2.freeze d2 t) (fun c h => .inl h) (fun c h => .inr h) p2 q
      split at f2
      · rename_i r e
        cases x <;> try (cases e; done)
        simp only [fLRev] at e
        split at e
        · rename_i hz
          cases e
          obtain ⟨b, xs, rfl, g1, _, g2⟩ := ob.lst
          exact ⟨b, xs, rfl, SqL.of g1, fun p hp => Fin.newL hp w2 d2 t f2 (g2 hz).reverse⟩
        · cases e
      · exact False.elim f2
    · exact False.elim f2
end
end PV
set_option Elab.async false
set_option linter.all false
set_option maxRecDepth 100000
set_option maxHeartbeats 4000000
namespace PG
open PySem PySem.Spec PyProof.Rows L2 GenW

/-! ## all(.. for .. in ..), any(..): a generator expression of any element -/
abbrev gEnv (X : Cx) (scope : Scope) (C : Addr) (code : Value) : PySem.Env := genEnv scope (cloFrom X.env.cells scope.names []) C code builtinsNs X.env
abbrev gCx (X : Cx) (s : Shared) (H : Hp) (genv : PySem.Env) (A : Around) (fp : List Addr) : Cx :=
  { X with A := A, s_0 := s, H_0 := H, env := genv, outer := X.stack, stack := genv :: X.stack, ex := fp, fn := fun _ => false, pn := [], xe := fun _ _ => False }
/-- the generator expression's scope -/
structure GenOk (N : List Str) (sc scope : Scope) (own : List (Str × Nat)) : Prop where
  blk : BlkOk N sc scope own
  co : scope.isCoroutine = false
  cell : ∀ y ∈ scope.names, y.2 ≠ .cell
  dot : scope.names.lookup (".0" : Str) = some NameKind.local
def genC (N : List Str) (sc scope : Scope) (own : List (Str × Nat)) : Bool :=
  blkC N sc scope own && !scope.isCoroutine && (scope.names.all fun y => match y.2 with | .cell => false | _ => true) && decide (scope.names.lookup (".0" : Str) = some NameKind.local)
theorem genOk_by {N : List Str} {sc scope : Scope} {own : List (Str × Nat)} (h : genC N sc scope own = true) : GenOk N sc scope own := by
  unfold genC at h
  simp only [Bool.and_eq_true, List.all_eq_true, decide_eq_true_eq, Bool.not_eq_true'] at h
  obtain ⟨⟨⟨h1, h2⟩, h3⟩, h4⟩ := h
  refine ⟨blkOk_by h1, h2, fun y hy e => ?_, h4⟩
  have := h3 y hy
  simp only [e] at this
  cases this
section
variable {X : Cx} {pins : List (Addr × Obj)} {σ : L2.St} {H : Hp} {s : Shared}
theorem gen_free {scope : Scope} {own : List (Str × Nat)} (I : Inv X pins σ H s) (ok : GenOk X.N X.env.scope scope own) : ∀ y ∈ scope.names, y.2 = .free → ∃ c, X.env.cells.lookup y.1 = some c := fun y hy e => by
  rcases ok.blk.free y hy e with k | k
  · exact I.ok.has _ (.inl k)
  · exact I.ok.has _ (.inr k)
theorem gen_start {scope : Scope} {own : List (Str × Nat)} {fp : List Addr} {code : Value} {A : Around} {h' : Heap} {it : Value} {gs : GenState} {tk : Nat} {gobj : Obj} (I : Inv X pins σ H s) (ok : GenOk X.N X.env.scope scope own) (hN : X.N.Nodup)
    (hfp : ∀ b ∈ fp, FpOk X pins H b ∧ b < s.heap.objs.size) (hA : A.frames = some (gEnv X scope s.heap.objs.size code :: X.stack)) (hh : A.handled = none) (hgb : gs.bare = true) (hcell : ∀ v, gobj.data ≠ .cell v) (hfr : gobj.isFreed = false)
    (hn : h'.Ns s.heap.objs.size (fun y => if y = ".0" then some it else none)) (hs : Heap.SameBut s.heap.objs.size (s.heap.push { cls := .type "frame", data := .dict #[] }) h') :
    Inv (gCx X s H (gEnv X scope s.heap.objs.size code) A fp) [(h'.objs.size, gobj)] (wipe σ (own.map (·.2))) H { s with gens := s.gens.push gs, toks := tk, heap := h'.push gobj } := by
  have hfree := gen_free I ok
  have hsz : h'.objs.size = s.heap.objs.size + 1 := by rw [hs.1, Heap.size_push]
  have keep1 : ∀ b o, s.heap.get? b = some o → h'.get? b = some o := fun b o e => hs.extBut b o (Nat.ne_of_lt (Heap.lt_size e)) (Heap.get?_push_of_some _ e)
  have kp : ∀ b o, s.heap.get? b = some o → (h'.push gobj).get? b = some o := fun b o e => Heap.get?_push_of_some _ (keep1 b o e)
  have cm : ∀ {y c}, (y, c) ∈ cloFrom X.env.cells scope.names [] → X.env.cells.lookup y = some c ∧ c < s.heap.objs.size := fun {y c} hm => by
    rcases cloFrom_mem hm with hm | ⟨h1, rfl⟩
    · cases hm
    · obtain ⟨c, hc⟩ := hfree _ h1 rfl
      rw [hc]
      obtain ⟨w, z⟩ := I.cell _ _ hc
      exact ⟨rfl, z.lt⟩
  have mem : ∀ {y c}, (cloFrom X.env.cells scope.names []).lookup y = some c → X.env.cells.lookup y = some c ∧ c < s.heap.objs.size := fun {y c} e => cm (PySem.mem_of_lookup e)
  have look : ∀ {y}, scope.names.lookup y = some .free → ∃ c, (cloFrom X.env.cells scope.names []).lookup y = some c ∧ X.env.cells.lookup y = some c := fun {y} hl => by
    obtain ⟨c', e'⟩ := mem_lookup (cloFrom_has (cells := X.env.cells) (acc := []) (PySem.mem_of_lookup hl))
    exact ⟨c', e', (mem e').1⟩
  have nocell : ∀ {y}, scope.names.lookup y ≠ some .cell := fun {y} hl => ok.cell _ (PySem.mem_of_lookup hl) rfl
  have okG : (gCx X s H (gEnv X scope s.heap.objs.size code) A fp).Ok := by
    refine ⟨I.ok.mod, ok.blk.kind, I.ok.glob, rfl, Nat.le_refl _, fun y z c e1 e2 => I.ok.inj y z c (mem e1).1 (mem e2).1, fun y hy => ?_, fun y c z e => absurd z (by simp), fun _ => hh, hA, .inr ⟨rfl, rfl⟩, fun b hb => ⟨?_, fun y c e z => ?_⟩, I.bs, Nat.le_trans I.ok.bsz I.sz, fun b o e hb => ?_, fun b hb z => ?_, I.stack, I.stkFree⟩
    · rcases hy with hy | hy
      · exact absurd hy nocell
      · obtain ⟨c, h1, _⟩ := look hy
        exact ⟨c, h1⟩
    · exact Nat.ne_of_lt (hfp b hb).2
    · exact (hfp b hb).1.2.2.2.2.1 y c (mem e).1 z
    · rcases (hfp b hb).1.2.2.2.1 with z | z
      · exact I.ok.noex b o e z
      · exact absurd (Nat.lt_of_lt_of_le (Heap.lt_size e) (Nat.le_trans I.ok.bsz z)) (Nat.lt_irrefl _)
    · rcases List.mem_cons.mp (I.stkSub b z) with z | z
      · exact (hfp b hb).1.2.1 z
      · exact (hfp b hb).1.2.2.1 z
  refine ⟨okG, rfl, I.bare.push hgb, Un.kept kp, ⟨_, hn.push _, fun i y av e1 e2 e3 => ?_⟩, fun y c e => ?_, ?_, fun y c e => ?_, fun p hp => ?_, I.hok.kept kp, by rw [wipe_length]; exact I.len⟩
  · obtain ⟨e2, hne⟩ := wipe_some e2
    have e1 : X.N[i]? = some y := e1
    have no : ∀ {k}, scope.names.lookup y = some k → ¬ (k = .local ∨ k = .cell) := fun {k} e hh => by
      rcases ok.blk.own _ (PySem.mem_of_lookup e) hh with e' | e'
      · obtain ⟨p, hp, hpy⟩ := List.mem_map.mp e'
        have e3 := ok.blk.ix p hp
        have : p.1 = y := hpy
        rw [this] at e3
        exact hne (List.mem_map.mpr ⟨p, hp, nodup_ix hN e3 e1⟩)
      · exact e' (List.mem_of_getElem? e1)
    have e3 : Vis scope y := e3
    have hfr : scope.names.lookup y = some .free := by
      rcases e3 with e3 | e3 | e3
      · exact absurd (.inl rfl) (no e3)
      · exact absurd (.inr rfl) (no e3)
      · exact e3
    obtain ⟨m, hn', hl⟩ := I.loc
    have hvis : Vis X.env.scope y := (ok.blk.free _ (PySem.mem_of_lookup hfr) rfl).elim (fun k => .inr (.inl k)) (fun k => .inr (.inr k))
    obtain ⟨w, r, q⟩ := hl i y av e1 e2 hvis
    refine ⟨w, r, .inr ⟨.inr hfr, ?_⟩⟩
    obtain ⟨c, h1, h2⟩ := look hfr
    rcases q with ⟨k, _⟩ | ⟨_, c', e', z⟩
    · have k : X.env.scope.names.lookup y = some .local := k
      rcases ok.blk.free _ (PySem.mem_of_lookup hfr) rfl with k' | k' <;> rw [show X.env.scope.names.lookup y = _ from k'] at k <;> cases k
    · rw [h2] at e'; cases e'
      exact ⟨c, h1, z.keeps kp⟩
  · obtain ⟨w, z⟩ := I.cell y c (mem e).1
    exact ⟨w, z.keeps kp⟩
  · exact I.hok.fresh (Nat.le_refl _)
  · exact I.freeC y c (mem e).1
  · have e : p = (h'.objs.size, gobj) := by simpa using hp
    subst e
    refine ⟨Heap.get?_push_size _ hfr, I.hok.fresh (by omega), ?_, fun hm => ?_, hcell⟩
    · show h'.objs.size ≠ s.heap.objs.size
      omega
    · rcases List.mem_cons.mp (I.stkSub _ hm) with z | z
      · have := I.lt
        have z : h'.objs.size = X.env.locals := z
        rw [← z, hsz] at this
        exact absurd this (Nat.not_lt.mpr (Nat.le_succ _))
      · exact I.nofs (a := h'.objs.size) (by omega) z
end
/-! ### the generator's run -/
/-- while it sleeps nothing that stands is changed -/
structure Slp (s s' : Shared) : Prop where
  os : s'.os = s.os
  bare : AllBare s'.gens
  keep : ∀ b o, s.heap.get? b = some o → s'.heap.get? b = some o
theorem _root_.L2.Inv.slept {X : Cx} {pins : List (Addr × Obj)} {σ : L2.St} {H : Hp} {s s' : Shared} (I : Inv X pins σ H s) (z : Slp s s') : Inv X pins σ H s' :=
  I.call' (ch := []) z.os (Un.kept z.keep) (I.hok.kept z.keep) z.bare fun b hb => by cases hb
section
variable {X : Cx}
def GYp (XG : Cx) (pg : List (Addr × Obj)) (stop : Bool) (Q : VK) : Protocol := fun n s₀ v s kap =>
  ∃ b pn σ H, v = .bool b ∧ Inv XG (pg ++ pn) σ H s ∧ (b = stop → Q (.bl stop) H) ∧ (b ≠ stop → ∀ s', Slp s s' → kap (.send .none) s')
def GRp (XG : Cx) (pg : List (Addr × Obj)) (stop : Bool) (Q : VK) : GenEnd := fun n s₀ r s => ((r = .ok (.ret .none) ∨ r = .ok .next) ∧ ∃ σ H, Inv XG pg σ H s ∧ Q (.bl (!stop)) H) ∨ ∃ e, r = .error e ∧ False
/-- the wish: at the turn i -/
def GW (stop : Bool) (J : It) (g : TG) (tt : TT) (te : TE) (vs : List Nat) (σ : L2.St) (Q : VK) (W : Nat → Nat → Hp → Prop) : Prop := ∀ i m H, W i m H →
  (J.stop i H ∧ Q (.bl (!stop)) H) ∨ (J.go i H ∧ ∃ Nx : Hp → Prop, (∀ H', Nx H' → ∃ m', m' < m ∧ W (i + 1) m' H') ∧ ∀ x H', J.yld i H x H' → g x (wipe σ vs) H' fun σ2 H2 => wipe σ2 vs = wipe σ vs ∧ tt σ2 H2 fun b H3 =>
    if b = true then te σ2 H3 fun y H4 => ∃ v, y = .bl v ∧ (v = stop → Q (.bl stop) H4) ∧ (v ≠ stop → Nx H4) else Nx H3)
theorem gen_loop {XG : Cx} {A : Around} {elt tg iter : Expr} {ifs : List Expr} {scope : Scope} {pos : Pos} {it : Addr} {fp : List Addr} {tn : Nat → Heap → Prop} {J : It} {g : TG} {tt : TT} {te : TE} {vs : List Nat} {pg : List (Addr × Obj)} {stop : Bool} {σ : L2.St} {Q : VK} {W : Nat → Nat → Hp → Prop}
    (hA : XG.A = A.over (.compLoop (.GeneratorExp elt [⟨tg, iter, ifs, 0⟩] scope pos) 0 (.ref it) .none XG.env) []) (hex : XG.ex = fp) (hpn : XG.pn = []) (hpf : ∀ p ∈ pg, ∀ b ∈ fp, p.1 ≠ b) (hc : XG.calm = true) (hco : XG.env.scope.isCoroutine = false) (hxe : XG.xe = fun _ _ => False)
    (T : Turn XG.prog XG.w XG.K tg J fp it tn) (hg : PG XG tg g) (ht : PTs XG ifs tt) (he : PE XG elt te) (gw : GW stop J g tt te vs σ Q W) :
    ∀ (m n i : Nat) (s₀ s : Shared) (H : Hp), m + 1 ≤ n → W i m H → Inv XG pg (wipe σ vs) H s → tn i s.heap → (∀ b ∈ fp, H b = none) →
      Seg (model XG.prog XG.w) A (GRp XG pg stop Q) (GYp XG pg stop Q) n s₀ (.compLoop (.GeneratorExp elt [⟨tg, iter, ifs, 0⟩] scope pos) 0 (.ref it) .none XG.env)
        ((model XG.prog XG.w).den (.compLoop (.GeneratorExp elt [⟨tg, iter, ifs, 0⟩] scope pos) 0 (.ref it) .none XG.env)) [] s := by
  have stat : ∀ {pn : List (Addr × Obj)} {σ' : L2.St} {H' : Hp} {s' : Shared}, Inv XG pg σ' H' s' → (∀ b ∈ fp, H' b = none) → ∀ b ∈ fp, FpOk XG pg H' b := fun {pn σ' H' s'} I' hn b hb =>
    have hb' : b ∈ XG.ex := by rw [hex]; exact hb
    ⟨hn b hb, (I'.ok.exf b hb').1, I'.ok.exfs b hb', .inl hb', fun x c e => (I'.ok.exf b hb').2 x c e, fun p hp => by rw [hpn] at hp; exact hpf p hp b hb⟩
  have wk : ∀ {α : Type} {t : Sem α} {Q1 Q2 : α → Shared → Prop} {E : Value → Shared → Prop} {s : Shared}, wpAny (model XG.prog XG.w) XG.A t Q1 XG.xe s → (∀ a s, Q1 a s → Q2 a s) → wpAny (model XG.prog XG.w) (A.over (.compLoop (.GeneratorExp elt [⟨tg, iter, ifs, 0⟩] scope pos) 0 (.ref it) .none XG.env) []) t Q2 E s := by
    intro α t Q1 Q2 E s h hq
    rw [hxe, hA] at h
    exact thnF h hq
  intro m
  induction m using Nat.strongRecOn with
  | ind m ih =>
    intro n i s₀ s H hn w I st fr
    obtain ⟨k, rfl⟩ : ∃ k, n = k + 1 := ⟨n - 1, by omega⟩
    show Seg _ A _ _ _ s₀ _ ((compTurn (.GeneratorExp elt [⟨tg, iter, ifs, 0⟩] scope pos) 0 (.ref it) .none XG.env).onRaise (leaving XG.env)) [] s
    rw [compTurn_gen, Sem.onRaise_eq_wrap]
    refine seg_bind_wrap (wpAny_standAt ?_)
    rcases gw i m H w with ⟨sp, q⟩ | ⟨go, Nx, hNx, step⟩
    · refine seg_bind_wrap (wk (T.done XG rfl rfl rfl hc i pg s _ H XG.xe I (stat (pn := []) I fr) st sp) fun r s1 ⟨hr, I1⟩ => ?_)
      subst hr
      exact seg_end (.ok .next) (.inl ⟨.inr rfl, _, H, I1, q⟩)
    · refine seg_bind_wrap (wk (T.item XG rfl rfl rfl hc i pg s _ H XG.xe I (stat (pn := []) I fr) st go) fun r s1 ⟨u, hr, h1⟩ => ?_)
      subst hr
      refine seg_bind_wrap (wk h1 fun _ s2 ⟨x, H2, I2, r2, y2, st2, fr2⟩ => ?_)
      have I2' := I2.pinned (stat (pn := []) I2 fr2) (T.obj _ _ st2)
      refine seg_bind_wrap (wk (hg.run _ s2 _ H2 x u _ I2' r2 (step x H2 y2)) fun _ s3 ⟨σ3, H3, I3, hw3, q3⟩ => ?_)
      refine seg_bind_wrap (wk (ht.run _ s3 σ3 H3 _ I3 q3) fun b s4 ⟨H4, I4, q4⟩ => ?_)
      have back : ∀ {s' : Shared} {H' : Hp}, Inv XG (pg ++ pinsAt fp s2.heap) σ3 H' s' → Inv XG pg (wipe σ vs) H' s' ∧ tn (i + 1) s'.heap ∧ ∀ b ∈ fp, H' b = none := fun {s' H'} I' => by
        have pin' : ∀ b ∈ fp, ∀ o, s2.heap.get? b = some o → s'.heap.get? b = some o ∧ H' b = none := fun b hb o e =>
          let z := I'.pin (b, o) (List.mem_append_right _ (List.mem_append_right _ (mem_pinsAt hb e)))
          ⟨z.1, z.2.1⟩
        have hl : (wipe σ vs).length = σ3.length := by rw [← hw3, wipe_length]
        refine ⟨(I'.unpinned (pins := pg)).weak hl (fun j v e => ?_), T.keep _ _ _ st2 fun b hb o e => (pin' b hb o e).1, fun b hb => ?_⟩
        · rw [← hw3] at e
          exact (wipe_some e).1
        · obtain ⟨o, e, _⟩ := T.obj _ _ st2 b hb
          exact (pin' b hb o e).2
      cases b with
      | false =>
        simp only [Bool.false_eq_true, if_false] at q4 ⊢
        obtain ⟨m', hm, w'⟩ := hNx _ q4
        obtain ⟨I5, st5, fr5⟩ := back I4
        exact seg_again rfl (ih m' hm (k + 1) (i + 1) s₀ s4 H4 (by omega) w' I5 st5 fr5)
      | true =>
        simp only [if_true] at q4 ⊢
        have hy : ∀ v, yieldOut XG.env v = yieldValue v := fun v => by simp only [yieldOut, hco, Bool.false_eq_true, if_false]
        simp only [hy]
        rw [Sem.bind_eq_wrap', Sem.bind_eq_wrap', Sem.wrap_wrap, Sem.wrap_wrap]
        refine seg_wrap (wk (he.run _ s4 σ3 H4 _ I4 q4) fun z s5 ⟨yv, H5, I5, r5, v, ev, q5, q6⟩ => ?_)
        subst ev
        cases r5
        refine seg_at (seg_yield rfl rfl rfl ⟨v, _, σ3, H5, rfl, I5, q5, fun hv s' sl => ?_⟩)
        obtain ⟨m', hm, w'⟩ := hNx _ (q6 hv)
        obtain ⟨I6, st6, fr6⟩ := back (I5.slept sl)
        exact seg_again rfl (ih m' hm k (i + 1) s' s' H5 (by omega) w' I6 st6 fr6)

theorem gen_startSeg {XG : Cx} {A : Around} {elt tg iter : Expr} {ifs : List Expr} {scope : Scope} {pos : Pos} {it : Addr} {fp : List Addr} {tn : Nat → Heap → Prop} {J : It} {g : TG} {tt : TT} {te : TE} {vs : List Nat} {pg : List (Addr × Obj)} {stop : Bool} {σ : L2.St} {Q : VK} {W : Nat → Nat → Hp → Prop}
    (hA : XG.A = A.over (.compLoop (.GeneratorExp elt [⟨tg, iter, ifs, 0⟩] scope pos) 0 (.ref it) .none XG.env) []) (hex : XG.ex = fp) (hpn : XG.pn = []) (hpf : ∀ p ∈ pg, ∀ b ∈ fp, p.1 ≠ b) (hc : XG.calm = true) (hco : XG.env.scope.isCoroutine = false) (hxe : XG.xe = fun _ _ => False)
    (T : Turn XG.prog XG.w XG.K tg J fp it tn) (hg : PG XG tg g) (ht : PTs XG ifs tt) (he : PE XG elt te) (gw : GW stop J g tt te vs σ Q W) (m n : Nat) (s₀ s : Shared) (H : Hp) (hn : m + 1 ≤ n) (w : W 0 m H) (I : Inv XG pg (wipe σ vs) H s) (st : tn 0 s.heap) (fr : ∀ b ∈ fp, H b = none) :
      Seg (model XG.prog XG.w) A (GRp XG pg stop Q) (GYp XG pg stop Q) n s₀ (.compStart (.GeneratorExp elt [⟨tg, iter, ifs, 0⟩] scope pos) 0 (.ref it) .none XG.env)
        ((model XG.prog XG.w).den (.compStart (.GeneratorExp elt [⟨tg, iter, ifs, 0⟩] scope pos) 0 (.ref it) .none XG.env)) [] s := by
  have loop := gen_loop hA hex hpn hpf hc hco hxe T hg ht he gw m n 0 s₀ s H hn w I st fr
  show Seg _ A _ _ _ s₀ _ ((compStart (.GeneratorExp elt [⟨tg, iter, ifs, 0⟩] scope pos) 0 (.ref it) .none XG.env).onRaise (leaving XG.env)) [] s
  unfold compStart
  rw [Sem.onRaise_eq_wrap]
  show Seg _ A _ _ _ s₀ _ ((ask >>= _).wrap _ _ _ _) [] s
  refine seg_bind_wrap (wpAny_askSetting ?_)
  split
  · exact seg_again rfl loop
  · first
      | exact seg_bind_wrap (wpAny_rule (seg_bind_wrap (wpAny_standAt (seg_bind_wrap (T.self _ 0 s _ _ st (seg_again rfl loop))))))
      | (refine seg_bind_wrap (wpAny_rule ?_); show Seg _ A _ _ _ s₀ _ ((standAt iter.pos >>= _).wrap _ _ _ _) [] s; exact seg_bind_wrap (wpAny_standAt (seg_bind_wrap (T.self _ 0 s _ _ st (seg_again rfl loop)))))

/-! ### the consumers -/
theorem setGen_heap (s : Shared) (g : Nat) (x : GenState) : (s.setGen g x).heap = s.heap := rfl
section
variable {XG : Cx} {A : Around} {R : Result → Shared → Prop} {a : Addr} {g : Nat} {pg : List (Addr × Obj)} {Q : VK}
theorem allG (hh : A.handled = none) (hroom : A.depth < recursionLimit) (hgen : ∀ {pn σ H s}, Inv XG (pg ++ pn) σ H s → s.heap.IsGen a g)
    (fin : ∀ (b : Bool) (s1 s' : Shared), (∃ pn σ H, Inv XG (pg ++ pn) σ H s1 ∧ Q (.bl b) H) → s'.os = s1.os → AllBare s'.gens → (∀ c o, s1.heap.get? c = some o → s'.heap.get? c = some o) → R (.ok (.ret (.bool b))) s') :
    ∀ (n : Nat) (s : Shared), s.heap.IsGen a g → s.heap.NoLimit → (∃ gs, s.gens[g]? = some gs ∧ gs.Goes (model XG.prog XG.w) A.in1.in1 (GRp XG pg false Q) (GYp XG pg false Q) n (.send .none) (s.setGen g .running)) →
      codeAny (model XG.prog XG.w) A (.builtin "all.loop" ⟨[.ref a], []⟩) R s := by
  intro n
  induction n with
  | zero =>
    intro s hg hl ⟨gs, hgs, hgo⟩
    refine codeAny_builtin F.entry_all_loop ?_
    rw [Around.under_plainId F.plain_all_loop _]
    show wpAny _ A.in1 (pyNext (.ref a) >>= _) _ _ s
    refine wpAny_bind (next_genG (A := A.in1) (F := fun n s₀ s1 => ∃ σ H, Inv XG pg σ H s1 ∧ Q (.bl (!false)) H) (Er := fun _ _ => False) hh hl hroom hg hgs hgo (fun v s₁ gs' hbare hv => ?_) (fun s₁ hp h' hk => ?_) fun e s₁ he => he.elim)
    · obtain ⟨b, pn, σ, H, rfl, I, q1, q2⟩ := hv
      refine wpAny_bind (wpAny_holding (wpAny_truthy_bool ?_))
      refine wpAny_bind (wpAny_letGo ?_)
      cases b with
      | true => exact False.elim (q2 (by decide) s₁ ⟨rfl, I.bare, fun _ _ e => e⟩)
      | false =>
        simp only [Bool.false_eq_true, if_false]
        exact wpAny_bind (wpAny_rule (wpAny_pure (fin false s₁ _ ⟨pn, σ, H, I, q1 rfl⟩ rfl (allBare_setGen I.bare hbare) fun _ _ e => e)))
    · obtain ⟨σ, H, I, q⟩ := hp
      refine wpAny_bind (wpAny_rule (wpAny_pure ?_))
      exact fin true s₁ _ ⟨[], σ, H, by rw [List.append_nil]; exact I, q⟩ rfl (allBare_setGen I.bare rfl) hk
  | succ n ih =>
    intro s hg hl ⟨gs, hgs, hgo⟩
    have hgl : g < s.gens.size := (Array.getElem?_eq_some_iff.mp hgs).1
    refine codeAny_builtin F.entry_all_loop ?_
    rw [Around.under_plainId F.plain_all_loop _]
    show wpAny _ A.in1 (pyNext (.ref a) >>= _) _ _ s
    refine wpAny_bind (wpAny_gsz (n := g + 1) hgl (next_genG (A := A.in1) (F := fun n s₀ s1 => ∃ σ H, Inv XG pg σ H s1 ∧ Q (.bl (!false)) H) (Er := fun _ _ => False) hh hl hroom hg hgs hgo (fun v s₁ gs' hbare hv => ?_) (fun s₁ hp h' hk => ?_) fun e s₁ he => he.elim))
    · intro hsz
      obtain ⟨b, pn, σ, H, rfl, I, q1, q2⟩ := hv
      refine wpAny_bind (wpAny_holding (wpAny_truthy_bool ?_))
      refine wpAny_bind (wpAny_letGo ?_)
      cases b with
      | true =>
        simp only [if_true]
        have hsz1 : g < s₁.gens.size := by
          have q : (s₁.setGen g gs').gens.size = s₁.gens.size := setGen_size _ _ _
          have hsz' : g + 1 ≤ (s₁.setGen g gs').gens.size := hsz
          omega
        refine wpAny_pure ⟨plainId_quiet F.plain_all_loop _, ih (s₁.setGen g gs') (hgen (s := s₁) I) I.nolimit ⟨gs', setGen_at hsz1, ?_⟩⟩
        exact q2 (by decide) _ ⟨rfl, allBare_setGen (s := s₁.setGen g gs') (allBare_setGen I.bare hbare) rfl, fun _ _ e => e⟩
      | false =>
        simp only [Bool.false_eq_true, if_false]
        exact wpAny_bind (wpAny_rule (wpAny_pure (fin false s₁ _ ⟨pn, σ, H, I, q1 rfl⟩ rfl (allBare_setGen I.bare hbare) fun _ _ e => e)))
    · intro hsz
      obtain ⟨σ, H, I, q⟩ := hp
      refine wpAny_bind (wpAny_rule (wpAny_pure ?_))
      exact fin true s₁ _ ⟨[], σ, H, by rw [List.append_nil]; exact I, q⟩ rfl (allBare_setGen I.bare rfl) hk
theorem anyG (hh : A.handled = none) (hroom : A.depth < recursionLimit) (hgen : ∀ {pn σ H s}, Inv XG (pg ++ pn) σ H s → s.heap.IsGen a g)
    (fin : ∀ (b : Bool) (s1 s' : Shared), (∃ pn σ H, Inv XG (pg ++ pn) σ H s1 ∧ Q (.bl b) H) → s'.os = s1.os → AllBare s'.gens → (∀ c o, s1.heap.get? c = some o → s'.heap.get? c = some o) → R (.ok (.ret (.bool b))) s') :
    ∀ (n : Nat) (s : Shared), s.heap.IsGen a g → s.heap.NoLimit → (∃ gs, s.gens[g]? = some gs ∧ gs.Goes (model XG.prog XG.w) A.in1.in1 (GRp XG pg true Q) (GYp XG pg true Q) n (.send .none) (s.setGen g .running)) →
      codeAny (model XG.prog XG.w) A (.builtin "any.loop" ⟨[.ref a], []⟩) R s := by
  intro n
  induction n with
  | zero =>
    intro s hg hl ⟨gs, hgs, hgo⟩
    refine codeAny_builtin F.entry_any_loop ?_
    rw [Around.under_plainId F.plain_any_loop _]
    show wpAny _ A.in1 (pyNext (.ref a) >>= _) _ _ s
    refine wpAny_bind (next_genG (A := A.in1) (F := fun n s₀ s1 => ∃ σ H, Inv XG pg σ H s1 ∧ Q (.bl (!true)) H) (Er := fun _ _ => False) hh hl hroom hg hgs hgo (fun v s₁ gs' hbare hv => ?_) (fun s₁ hp h' hk => ?_) fun e s₁ he => he.elim)
    · obtain ⟨b, pn, σ, H, rfl, I, q1, q2⟩ := hv
      refine wpAny_bind (wpAny_holding (wpAny_truthy_bool ?_))
      refine wpAny_bind (wpAny_letGo ?_)
      cases b with
      | false => exact False.elim (q2 (by decide) s₁ ⟨rfl, I.bare, fun _ _ e => e⟩)
      | true =>
        simp only [if_true]
        exact wpAny_bind (wpAny_rule (wpAny_pure (fin true s₁ _ ⟨pn, σ, H, I, q1 rfl⟩ rfl (allBare_setGen I.bare hbare) fun _ _ e => e)))
    · obtain ⟨σ, H, I, q⟩ := hp
      refine wpAny_bind (wpAny_rule (wpAny_pure ?_))
      exact fin false s₁ _ ⟨[], σ, H, by rw [List.append_nil]; exact I, q⟩ rfl (allBare_setGen I.bare rfl) hk
  | succ n ih =>
    intro s hg hl ⟨gs, hgs, hgo⟩
    have hgl : g < s.gens.size := (Array.getElem?_eq_some_iff.mp hgs).1
    refine codeAny_builtin F.entry_any_loop ?_
    rw [Around.under_plainId F.plain_any_loop _]
    show wpAny _ A.in1 (pyNext (.ref a) >>= _) _ _ s
    refine wpAny_bind (wpAny_gsz (n := g + 1) hgl (next_genG (A := A.in1) (F := fun n s₀ s1 => ∃ σ H, Inv XG pg σ H s1 ∧ Q (.bl (!true)) H) (Er := fun _ _ => False) hh hl hroom hg hgs hgo (fun v s₁ gs' hbare hv => ?_) (fun s₁ hp h' hk => ?_) fun e s₁ he => he.elim))
    · intro hsz
      obtain ⟨b, pn, σ, H, rfl, I, q1, q2⟩ := hv
      refine wpAny_bind (wpAny_holding (wpAny_truthy_bool ?_))
      refine wpAny_bind (wpAny_letGo ?_)
      cases b with
      | false =>
        simp only [Bool.false_eq_true, if_false]
        have hsz1 : g < s₁.gens.size := by
          have q : (s₁.setGen g gs').gens.size = s₁.gens.size := setGen_size _ _ _
          have hsz' : g + 1 ≤ (s₁.setGen g gs').gens.size := hsz
          omega
        refine wpAny_pure ⟨plainId_quiet F.plain_any_loop _, ih (s₁.setGen g gs') (hgen (s := s₁) I) I.nolimit ⟨gs', setGen_at hsz1, ?_⟩⟩
        exact q2 (by decide) _ ⟨rfl, allBare_setGen (s := s₁.setGen g gs') (allBare_setGen I.bare hbare) rfl, fun _ _ e => e⟩
      | true =>
        simp only [if_true]
        exact wpAny_bind (wpAny_rule (wpAny_pure (fin true s₁ _ ⟨pn, σ, H, I, q1 rfl⟩ rfl (allBare_setGen I.bare hbare) fun _ _ e => e)))
    · intro hsz
      obtain ⟨σ, H, I, q⟩ := hp
      refine wpAny_bind (wpAny_rule (wpAny_pure ?_))
      exact fin false s₁ _ ⟨[], σ, H, by rw [List.append_nil]; exact I, q⟩ rfl (allBare_setGen I.bare rfl) hk
end
end
end PG
set_option Elab.async false
set_option linter.all false
set_option maxRecDepth 100000
set_option maxHeartbeats 4000000
namespace PG
open PySem PySem.Spec PyProof.Rows L2 GenW

section
variable {X : Cx} {pins : List (Addr × Obj)} {σ : L2.St} {H : Hp} {s : Shared}
/-- the generator is made -/
theorem gen_make {c P : Addr} {elt tg iter : Expr} {ifs : List Expr} {gpos : Pos} {scope : Scope} {own : List (Str × Nat)} {wi : TI} {k : Nat} {Rr : It → Hp → Prop} {Q' : Value → Shared → Prop}
    (hr : Room k X.A) (TB : GxR.TabB X.base X.mg c P) (hcode : X.env.code = .ref c) (ok : GenOk X.N X.env.scope scope own) (hi : PI X tg iter wi) (hs : ∀ v, genFold iter X.env v = pure v) (I : Inv X pins σ H s) (h : wi σ H fun J H1 => GxR.TabG H1 P ∧ Rr J H1)
    (hQ : ∀ (J : It) (H1 H4 : Hp) (it : Addr) (fp : List Addr) (tn : Nat → Heap → Prop) (s4 : Shared) (code : Value) (h' : Heap) (t1 t2 t3 : Nat), Rr J H1 → GxR.Tabbed P H1 H4 → Inv X pins σ H4 s4 → Turn X.prog X.w X.K tg J fp it tn → tn 0 s4.heap → (∀ b ∈ fp, FpOk X pins H4 b ∧ b < s4.heap.objs.size) →
      h'.Ns s4.heap.objs.size (fun y => if y = ".0" then some (.ref it) else none) → Heap.SameBut s4.heap.objs.size (s4.heap.push { cls := .type "frame", data := .dict #[] }) h' →
      Q' (.ref h'.objs.size) { s4 with
            gens := s4.gens.push (.fresh (.compStart (.GeneratorExp elt [⟨tg, iter, ifs, 0⟩] scope gpos) 0 (.ref it) .none (gEnv X scope s4.heap.objs.size code))),
            toks := t3,
            heap := h'.push { cls := .type "generator", data := .fields #[.int s4.gens.size 0, .str "<genexpr>" t1, .str (X.env.qual ++ "<genexpr>") t2] } }) :
    wpAny (model X.prog X.w) X.A (eval (.GeneratorExp elt [⟨tg, iter, ifs, 0⟩] scope gpos) X.env) Q' X.xe s := by
  refine wpAny_GeneratorExp_make ok.co (closure_ok (gen_free I ok)) ok.cell ok.dot ok.blk.kind (by have := hr.dp; omega) ?_ hs
  refine thn (hi.run pins s σ H _ I h) fun xv s1 h1 => thn h1 fun itv s2 h2 => ?_
  obtain ⟨it, fp, tn, J, H1, e, I2, T, st2, f2, ⟨ps, hP, ht⟩, q⟩ := h2
  subst e
  refine ⟨I2.nolimit, ?_⟩
  have hPs : s2.heap.get? P = some { cls := .none, data := .fields ps } := I2.hok P _ hP
  have cd : PySem.W.CodeHd s2.heap c P := TB.code.keeps fun b u e => I2.bk b u e
  have sz : ∀ b ∈ fp, b < s2.heap.objs.size := fun b hb => by
    obtain ⟨o, e, _⟩ := T.obj _ _ st2 b hb
    exact Heap.lt_size e
  have nP : ∀ b ∈ fp, b ≠ P := fun b hb z => by
    have := (f2 b hb).1
    rw [z, hP] at this; cases this
  have cont : ∀ (code : Value) (h3 : Heap) (tk : Nat) (ps' : Array Value), Heap.ExtBut P s2.heap h3 → s2.heap.objs.size ≤ h3.objs.size → h3.get? P = some { cls := .none, data := .fields ps' } → (∃ more, ps' = ps ++ more) → TriplesOk ps'.toList →
      wpAny (model X.prog X.w) X.A (builtinsFor X.env.globals X.env.builtins) (fun bi s₄ => ∀ h', h'.Ns s₄.heap.objs.size (fun y => if y = ".0" then some (.ref it) else none) → Heap.SameBut s₄.heap.objs.size (s₄.heap.push { cls := .type "frame", data := .dict #[] }) h' →
          Q' (.ref h'.objs.size) { s₄ with
            gens := s₄.gens.push (.fresh (.compStart (.GeneratorExp elt [⟨tg, iter, ifs, 0⟩] scope gpos) 0 (.ref it) .none (genEnv scope (cloFrom X.env.cells scope.names []) s₄.heap.objs.size code bi X.env))),
            toks := s₄.toks + 1 + 1 + 1,
            heap := h'.push { cls := .type "generator", data := .fields #[.int s₄.gens.size 0, .str "<genexpr>" (s₄.toks + 1), .str (X.env.qual ++ "<genexpr>") (s₄.toks + 1 + 1)] } }) X.xe { s2 with heap := h3, toks := tk } := by
    intro code h3 tk ps' hx hsz hP3 hmore ht3
    obtain ⟨bm, ob, e1, e2, e3, e4, e5, e6, e7, e8⟩ := TB.bm
    refine wpAny_builtinsFor (m := X.mg) (by rw [I2.ok.glob]; exact (I2.mod.glob.keeps I2.bk).extBut hx TB.gP) e1 e2 (hx _ _ e4 (I2.bk _ _ e5)) e6 e7 e8 ?_
    intro h' hn hsb
    obtain ⟨more, rfl⟩ := hmore
    have I4 := GxR.inv_tab (more := more) (g' := s2.gens) (d' := s2.drawn) (t' := tk) I2 hP (fun b o hb e => hx b o hb e) hP3 I2.bare
    exact hQ J H1 _ it fp tn { s2 with heap := h3, toks := tk } code h' _ _ _ q ⟨⟨_, upd_same, ht3⟩, fun b hb => upd_ne hb⟩ I4 T (T.keep _ _ _ st2 fun b hb o e => hx b o (nP b hb) e)
      (fun b hb => ⟨⟨by rw [upd_ne (nP b hb)]; exact (f2 b hb).1, (f2 b hb).2⟩, Nat.lt_of_lt_of_le (sz b hb) hsz⟩) hn hsb
  cases hf : codeAmong gpos ps.toList with
  | none =>
    refine wpAny_genexprCodeX hcode (cd.code hPs ht) (cd.tab hPs) hf fun c' h' tk hx hge hlt hco' _ htab' _ => ?_
    obtain ⟨o1, vs, f1, tf, fl, tg', inF, tx, tt, op, _, _, _, _, _, _, _, _, _, htr, _⟩ := hco'
    exact cont _ h' tk _ hx (Nat.le_trans hge (Nat.le_of_lt hlt)) htab'.2 ⟨_, rfl⟩ htr
  | some cv =>
    refine wpAny_genexprCode_hit hcode (cd.code hPs ht) hf ?_
    exact cont cv s2.heap s2.toks ps (Heap.ExtBut.refl _ _) (Nat.le_refl _) hPs ⟨#[], by simp⟩ ht
/-- all(elt for tg in iter if ..) (stop = False), any(..) (stop = True) -/
def tGen (P : Addr) (stop : Bool) (wi : TI) (g : TG) (tt : TT) (te : TE) (vs : List Nat) : TE := fun σ H Q => wi σ H fun J H1 => GxR.TabG H1 P ∧ ∀ H2, GxR.Tabbed P H1 H2 → ∃ W : Nat → Nat → Hp → Prop, (∃ m, W 0 m H2) ∧ GW stop J g tt te vs σ Q W
theorem pe_gen {c P : Addr} {nm : Str} {elt tg iter : Expr} {ifs : List Expr} {p pos gpos : Pos} {scope : Scope} {own : List (Str × Nat)} {wi : TI} {g : TG} {tt : TT} {te : TE} {k : Nat} {stop : Bool}
    (hc : X.calm = true) (hr : Room (k + 1) X.A) (hnm : (stop = false ∧ nm = "all") ∨ (stop = true ∧ nm = "any")) (hgl : Gl X nm) (hm : X.mg nm = none) (TB : GxR.TabB X.base X.mg c P) (hcode : X.env.code = .ref c) (hN : X.N.Nodup) (ok : GenOk X.N X.env.scope scope own) (hi : PI X tg iter wi)
    (hg : ∀ (s : Shared) (H : Hp) (C : Addr) (code : Value) (A : Around) (fp : List Addr), Room k A → PG (gCx X s H (gEnv X scope C code) A fp) tg g)
    (ht : ∀ (s : Shared) (H : Hp) (C : Addr) (code : Value) (A : Around) (fp : List Addr), Room k A → PTs (gCx X s H (gEnv X scope C code) A fp) ifs tt)
    (he : ∀ (s : Shared) (H : Hp) (C : Addr) (code : Value) (A : Around) (fp : List Addr), Room k A → PE (gCx X s H (gEnv X scope C code) A fp) elt te)
    (hs : ∀ v, genFold iter X.env v = pure v) (hco : scope.isCoroutine = false) :
    PE X (.Call (.Name nm p) [.GeneratorExp elt [⟨tg, iter, ifs, 0⟩] scope gpos] [] pos) (tGen P stop wi g tt te (own.map (·.2))) := by
  have hst : starEach [.GeneratorExp elt [⟨tg, iter, ifs, 0⟩] scope gpos] X.env = (false, eval (.GeneratorExp elt [⟨tg, iter, ifs, 0⟩] scope gpos) X.env) :: starEach [] X.env := rfl
  refine ⟨fun pins s σ H Q I h => ?_⟩
  -- the call, once the generator is there
  have run : ∀ (fn : Sem Value → Sem Value), True := fun _ => trivial
  have key : ∀ (J : It) (H1 H4 : Hp) (it : Addr) (fp : List Addr) (tn : Nat → Heap → Prop) (s4 : Shared) (code : Value) (h' : Heap) (t1 t2 t3 : Nat), (∀ H2, GxR.Tabbed P H1 H2 → ∃ W : Nat → Nat → Hp → Prop, (∃ m, W 0 m H2) ∧ GW stop J g tt te (own.map (·.2)) σ Q W) → GxR.Tabbed P H1 H4 → Inv X pins σ H4 s4 → Turn X.prog X.w X.K tg J fp it tn → tn 0 s4.heap → (∀ b ∈ fp, FpOk X pins H4 b ∧ b < s4.heap.objs.size) →
      h'.Ns s4.heap.objs.size (fun y => if y = ".0" then some (.ref it) else none) → Heap.SameBut s4.heap.objs.size (s4.heap.push { cls := .type "frame", data := .dict #[] }) h' →
      ∀ s5 : Shared, s5 = { s4 with
            gens := s4.gens.push (.fresh (.compStart (.GeneratorExp elt [⟨tg, iter, ifs, 0⟩] scope gpos) 0 (.ref it) .none (gEnv X scope s4.heap.objs.size code))),
            toks := t3,
            heap := h'.push { cls := .type "generator", data := .fields #[.int s4.gens.size 0, .str "<genexpr>" t1, .str (X.env.qual ++ "<genexpr>") t2] } } →
      ∃ XG : Cx, ∃ pg n, XG.prog = X.prog ∧ XG.w = X.w ∧ s5.heap.IsGen h'.objs.size s4.gens.size ∧ s5.heap.NoLimit ∧ (∀ {pn σ H s}, Inv XG (pg ++ pn) σ H s → s.heap.IsGen h'.objs.size s4.gens.size) ∧
        (∃ gs, s5.gens[s4.gens.size]? = some gs ∧ gs.Goes (model XG.prog XG.w) X.A.in1.in1 (GRp XG pg stop Q) (GYp XG pg stop Q) n (.send .none) (s5.setGen s4.gens.size .running)) ∧
        ∀ (b : Bool) (s1 s' : Shared), (∃ pn σ H, Inv XG (pg ++ pn) σ H s1 ∧ Q (.bl b) H) → s'.os = s1.os → AllBare s'.gens → (∀ c o, s1.heap.get? c = some o → s'.heap.get? c = some o) → EP X pins σ Q (.bool b) s' := by
    intro J H1 H4 it fp tn s4 code h' t1 t2 t3 hW hT I4 T st4 f4 hn hsb s5 e5
    obtain ⟨W, ⟨m, w⟩, gw⟩ := hW H4 hT
    have AGr : Room k ((X.A.in1.in1).over (.compLoop (.GeneratorExp elt [⟨tg, iter, ifs, 0⟩] scope gpos) 0 (.ref it) .none (gEnv X scope s4.heap.objs.size code)) []) :=
      ⟨hr.hd, by have := hr.dp; show X.A.depth + 0 + 1 + 3 * k + 5 < _; omega, by have := hr.un; show X.A.units + 1 + 1 + 0 + 3 + 16 * k + 200 < _; omega⟩
    have AGf : ((X.A.in1.in1).over (.compLoop (.GeneratorExp elt [⟨tg, iter, ifs, 0⟩] scope gpos) 0 (.ref it) .none (gEnv X scope s4.heap.objs.size code)) []).frames = some (gEnv X scope s4.heap.objs.size code :: X.stack) := by
      have e : X.A.frames = some X.stack := I4.ok.frames
      show pushEnvs [gEnv X scope s4.heap.objs.size code] (pushEnvs [] X.A.frames) = _
      rw [e]
      rfl
    have I5 := gen_start (gs := .fresh (.compStart (.GeneratorExp elt [⟨tg, iter, ifs, 0⟩] scope gpos) 0 (.ref it) .none (gEnv X scope s4.heap.objs.size code))) (tk := t3) (gobj := { cls := .type "generator", data := .fields #[.int s4.gens.size 0, .str "<genexpr>" t1, .str (X.env.qual ++ "<genexpr>") t2] }) I4 ok hN f4 AGf hr.hd rfl (fun v z => by cases z) rfl hn hsb
    rw [← e5] at I5
    have hgen : ∀ {h : Heap}, h.get? h'.objs.size = some { cls := .type "generator", data := .fields #[.int s4.gens.size 0, .str "<genexpr>" t1, .str (X.env.qual ++ "<genexpr>") t2] } → h.IsGen h'.objs.size s4.gens.size := fun {h} e => ⟨_, _, _, e, rfl, rfl, rfl⟩
    refine ⟨gCx X s4 H4 (gEnv X scope s4.heap.objs.size code) ((X.A.in1.in1).over (.compLoop (.GeneratorExp elt [⟨tg, iter, ifs, 0⟩] scope gpos) 0 (.ref it) .none (gEnv X scope s4.heap.objs.size code)) []) fp, [(h'.objs.size, { cls := .type "generator", data := .fields #[.int s4.gens.size 0, .str "<genexpr>" t1, .str (X.env.qual ++ "<genexpr>") t2] })], m + 1, rfl, rfl, ?_, I5.nolimit, fun {pn σ H s} I' => hgen (I'.pin (h'.objs.size, { cls := .type "generator", data := .fields #[.int s4.gens.size 0, .str "<genexpr>" t1, .str (X.env.qual ++ "<genexpr>") t2] }) (List.mem_append_right _ (List.mem_append_left _ (List.mem_singleton.mpr rfl)))).1, ⟨(.fresh (.compStart (.GeneratorExp elt [⟨tg, iter, ifs, 0⟩] scope gpos) 0 (.ref it) .none (gEnv X scope s4.heap.objs.size code))), by rw [e5]; exact Array.getElem?_push_size .., ?_⟩, ?_⟩
    · rw [e5]
      exact hgen (Heap.get?_push_size _ rfl)
    · have J5 := I5.slept (s' := s5.setGen s4.gens.size .running) ⟨rfl, allBare_setGen I5.bare rfl, fun _ _ e => e⟩
      refine ⟨rfl, ?_⟩
      refine gen_startSeg (XG := gCx X s4 H4 (gEnv X scope s4.heap.objs.size code) ((X.A.in1.in1).over (.compLoop (.GeneratorExp elt [⟨tg, iter, ifs, 0⟩] scope gpos) 0 (.ref it) .none (gEnv X scope s4.heap.objs.size code)) []) fp) rfl rfl rfl (fun p hp b hb => ?_) hc hco rfl T (hg _ _ _ _ _ _ AGr) (ht _ _ _ _ _ _ AGr) (he _ _ _ _ _ _ AGr) gw m (m + 1) _ _ H4 (Nat.le_refl _) w J5 ?_ fun b hb => (f4 b hb).1.1
      · have e : p = _ := List.mem_singleton.mp hp
        subst e
        have h1 := (f4 b hb).2
        have h2 : h'.objs.size = s4.heap.objs.size + 1 := by rw [hsb.1, Heap.size_push]
        show h'.objs.size ≠ b
        intro z
        rw [← z, h2] at h1
        exact absurd h1 (Nat.not_lt.mpr (Nat.le_succ _))
      · refine T.keep _ _ _ st4 fun b hb o e => ?_
        show s5.heap.get? b = some o
        rw [e5]
        exact Heap.get?_push_of_some _ (hsb.extBut b o (Nat.ne_of_lt (Heap.lt_size e)) (Heap.get?_push_of_some _ e))
    · intro b s1 s' ⟨pn, σ', H', I1, q⟩ os hb hk
      have u : Un (frs X.stack) fp H4 H' s4.heap s1.heap := I1.base
      refine ⟨.bl b, H', I4.call' (ch := fp) (os.trans I1.os) (u.trans (Un.kept hk)) (I1.hok.kept hk) hb fun c hc => ?_, rfl, q⟩
      obtain ⟨f0, f1, f2, f3, f4', f5⟩ := (f4 c hc).1
      exact ⟨f3, f1, f4', f5⟩
  rcases hnm with ⟨rfl, rfl⟩ | ⟨rfl, rfl⟩
  · refine wpAny_Call_Name_kw (ld_blt I hgl hm (by decide +kernel : bootBuiltins "all" = some (.builtin "all")) ?_)
    refine PyProof.Rows.callWith_builtin1 ?_ hst (by rfl)
    rw [hst]
    show wpAny _ _ (spliced ((false, eval (.GeneratorExp elt [⟨tg, iter, ifs, 0⟩] scope gpos) X.env) :: backTo pos (starEach [] X.env))) _ _ s
    refine Calls.spliced_cons (gen_make hr TB hcode ok hi hs I h fun J H1 H4 it fp tn s4 code h' t1 t2 t3 hW hT I4 T st4 f4 hn hsb => ?_)
    obtain ⟨XG, pg, n, ep, ew, gI, gL, gG, gs, fin⟩ := key J H1 H4 it fp tn s4 code h' t1 t2 t3 hW hT I4 T st4 f4 hn hsb _ rfl
    refine Calls.spliced_nil ?_
    refine call_function_tree F.kind_all F.plain_all F.entry_all (F.args_all1 _) ?_
    unfold Builtin.«all»
    refine wpAny_bind (m := oneArg "all" _) (wpAny_pure ?_)
    refine wpAny_bind (wpAny_pyIter_gen gI ?_)
    refine wpAny_pure ⟨plainId_quiet F.plain_all_loop _, ?_⟩
    rw [← ep, ← ew]
    exact allG (XG := XG) (A := X.A) (pg := pg) (Q := Q) hr.hd (by have := hr.dp; omega) gG (fun b s1 s' q1 q2 q3 q4 => fin b s1 s' q1 q2 q3 q4) n _ gI gL gs
  · refine wpAny_Call_Name_kw (ld_blt I hgl hm boot_any ?_)
    refine PyProof.Rows.callWith_builtin1 ?_ hst (by rfl)
    rw [hst]
    show wpAny _ _ (spliced ((false, eval (.GeneratorExp elt [⟨tg, iter, ifs, 0⟩] scope gpos) X.env) :: backTo pos (starEach [] X.env))) _ _ s
    refine Calls.spliced_cons (gen_make hr TB hcode ok hi hs I h fun J H1 H4 it fp tn s4 code h' t1 t2 t3 hW hT I4 T st4 f4 hn hsb => ?_)
    obtain ⟨XG, pg, n, ep, ew, gI, gL, gG, gs, fin⟩ := key J H1 H4 it fp tn s4 code h' t1 t2 t3 hW hT I4 T st4 f4 hn hsb _ rfl
    refine Calls.spliced_nil ?_
    refine call_function_tree F.kind_any F.plain_any F.entry_any (F.args_any1 _) ?_
    unfold Builtin.«any»
    refine wpAny_bind (m := oneArg "any" _) (wpAny_pure ?_)
    refine wpAny_bind (wpAny_pyIter_gen gI ?_)
    refine wpAny_pure ⟨plainId_quiet F.plain_any_loop _, ?_⟩
    rw [← ep, ← ew]
    exact anyG (XG := XG) (A := X.A) (pg := pg) (Q := Q) hr.hd (by have := hr.dp; omega) gG (fun b s1 s' q1 q2 q3 q4 => fin b s1 s' q1 q2 q3 q4) n _ gI gL gs
end
end PG
set_option Elab.async false
set_option linter.all false
set_option maxRecDepth 100000
set_option maxHeartbeats 4000000
namespace PG
open PySem PySem.Spec PyProof.Rows L2 GenW

/-! ## max(.. for .. in ..), min(..): a generator expression that yields integers -/
def GYm (XG : Cx) (Fam : List (Addr × Obj) → Prop) (yv : Nat → Int) : Protocol := fun n s₀ v s kap =>
  ∃ t pg pn σ H, v = .int (yv n) t ∧ Fam pg ∧ (∀ p ∈ pg, s₀.heap.get? p.1 = some p.2) ∧ (∀ p ∈ pg, ∀ q ∈ pn, p.1 ≠ q.1) ∧ Inv XG (pg ++ pn) σ H s ∧ ∀ pg' s', Fam pg' → Inv XG (pg' ++ pn) σ H s' → kap (.send .none) s'
def GRm (XG : Cx) (Fam : List (Addr × Obj) → Prop) (Q : Hp → Prop) : GenEnd := fun n s₀ r s =>
  ((r = .ok (.ret .none) ∨ r = .ok .next) ∧ n = 0 ∧ ∃ pg σ H, Fam pg ∧ (∀ p ∈ pg, s₀.heap.get? p.1 = some p.2) ∧ Inv XG pg σ H s ∧ Q H) ∨ ∃ e, r = .error e ∧ False
def GWm (J : It) (g : TG) (tt : TT) (te : TE) (vs : List Nat) (σ : L2.St) (yv : Nat → Int) (Q : Hp → Prop) (W : Nat → Nat → Nat → Hp → Prop) : Prop := ∀ i m n H, W i m n H →
  (J.stop i H ∧ n = 0 ∧ Q H) ∨ (J.go i H ∧ ∃ Nx : Nat → Hp → Prop, (∀ n' H', Nx n' H' → ∃ m', m' < m ∧ W (i + 1) m' n' H') ∧ ∀ x H', J.yld i H x H' → g x (wipe σ vs) H' fun σ2 H2 => wipe σ2 vs = wipe σ vs ∧ tt σ2 H2 fun b H3 =>
    if b = true then te σ2 H3 fun y H4 => ∃ r, n = r + 1 ∧ y = .int (yv r) ∧ Nx r H4 else Nx n H3)
theorem gen_loopM {XG : Cx} {A : Around} {elt tg iter : Expr} {ifs : List Expr} {scope : Scope} {pos : Pos} {it : Addr} {fp : List Addr} {tn : Nat → Heap → Prop} {J : It} {g : TG} {tt : TT} {te : TE} {vs : List Nat} {Fam : List (Addr × Obj) → Prop} {σ : L2.St} {yv : Nat → Int} {Q : Hp → Prop} {W : Nat → Nat → Nat → Hp → Prop}
    (hA : XG.A = A.over (.compLoop (.GeneratorExp elt [⟨tg, iter, ifs, 0⟩] scope pos) 0 (.ref it) .none XG.env) []) (hex : XG.ex = fp) (hpn : XG.pn = []) (hpf : ∀ pg, Fam pg → ∀ p ∈ pg, ∀ b ∈ fp, p.1 ≠ b) (hc : XG.calm = true) (hco : XG.env.scope.isCoroutine = false) (hxe : XG.xe = fun _ _ => False)
    (T : Turn XG.prog XG.w XG.K tg J fp it tn) (hg : PG XG tg g) (ht : PTs XG ifs tt) (he : PE XG elt te) (gw : GWm J g tt te vs σ yv Q W) :
    ∀ (m n i : Nat) (s₀ s : Shared) (H : Hp) (pg : List (Addr × Obj)), W i m n H → Fam pg → (∀ p ∈ pg, s₀.heap.get? p.1 = some p.2) → Inv XG pg (wipe σ vs) H s → tn i s.heap → (∀ b ∈ fp, H b = none) →
      Seg (model XG.prog XG.w) A (GRm XG Fam Q) (GYm XG Fam yv) n s₀ (.compLoop (.GeneratorExp elt [⟨tg, iter, ifs, 0⟩] scope pos) 0 (.ref it) .none XG.env)
        ((model XG.prog XG.w).den (.compLoop (.GeneratorExp elt [⟨tg, iter, ifs, 0⟩] scope pos) 0 (.ref it) .none XG.env)) [] s := by
  have stat : ∀ {pg : List (Addr × Obj)} {pn : List (Addr × Obj)} {σ' : L2.St} {H' : Hp} {s' : Shared}, Fam pg → Inv XG pg σ' H' s' → (∀ b ∈ fp, H' b = none) → ∀ b ∈ fp, FpOk XG pg H' b := fun {pg pn σ' H' s'} hF I' hn b hb =>
    have hb' : b ∈ XG.ex := by rw [hex]; exact hb
    ⟨hn b hb, (I'.ok.exf b hb').1, I'.ok.exfs b hb', .inl hb', fun x c e => (I'.ok.exf b hb').2 x c e, fun p hp => by rw [hpn] at hp; exact hpf pg hF p hp b hb⟩
  have wk : ∀ {α : Type} {t : Sem α} {Q1 Q2 : α → Shared → Prop} {E : Value → Shared → Prop} {s : Shared}, wpAny (model XG.prog XG.w) XG.A t Q1 XG.xe s → (∀ a s, Q1 a s → Q2 a s) → wpAny (model XG.prog XG.w) (A.over (.compLoop (.GeneratorExp elt [⟨tg, iter, ifs, 0⟩] scope pos) 0 (.ref it) .none XG.env) []) t Q2 E s := by
    intro α t Q1 Q2 E s h hq
    rw [hxe, hA] at h
    exact thnF h hq
  intro m
  induction m using Nat.strongRecOn with
  | ind m ih =>
    intro n i s₀ s H pg w hF hs0 I st fr
    show Seg _ A _ _ _ s₀ _ ((compTurn (.GeneratorExp elt [⟨tg, iter, ifs, 0⟩] scope pos) 0 (.ref it) .none XG.env).onRaise (leaving XG.env)) [] s
    rw [compTurn_gen, Sem.onRaise_eq_wrap]
    refine seg_bind_wrap (wpAny_standAt ?_)
    rcases gw i m n H w with ⟨sp, hn, q⟩ | ⟨go, Nx, hNx, step⟩
    · refine seg_bind_wrap (wk (T.done XG rfl rfl rfl hc i pg s _ H XG.xe I (stat (pn := []) hF I fr) st sp) fun r s1 ⟨hr, I1⟩ => ?_)
      subst hr
      exact seg_end (.ok .next) (.inl ⟨.inr rfl, hn, pg, _, H, hF, hs0, I1, q⟩)
    · refine seg_bind_wrap (wk (T.item XG rfl rfl rfl hc i pg s _ H XG.xe I (stat (pn := []) hF I fr) st go) fun r s1 ⟨u, hr, h1⟩ => ?_)
      subst hr
      refine seg_bind_wrap (wk h1 fun _ s2 ⟨x, H2, I2, r2, y2, st2, fr2⟩ => ?_)
      have I2' := I2.pinned (stat (pn := []) hF I2 fr2) (T.obj _ _ st2)
      refine seg_bind_wrap (wk (hg.run _ s2 _ H2 x u _ I2' r2 (step x H2 y2)) fun _ s3 ⟨σ3, H3, I3, hw3, q3⟩ => ?_)
      refine seg_bind_wrap (wk (ht.run _ s3 σ3 H3 _ I3 q3) fun b s4 ⟨H4, I4, q4⟩ => ?_)
      have back : ∀ {pg : List (Addr × Obj)} {s' : Shared} {H' : Hp}, Inv XG (pg ++ pinsAt fp s2.heap) σ3 H' s' → Inv XG pg (wipe σ vs) H' s' ∧ tn (i + 1) s'.heap ∧ ∀ b ∈ fp, H' b = none := fun {pg s' H'} I' => by
        have pin' : ∀ b ∈ fp, ∀ o, s2.heap.get? b = some o → s'.heap.get? b = some o ∧ H' b = none := fun b hb o e =>
          let z := I'.pin (b, o) (List.mem_append_right _ (List.mem_append_right _ (mem_pinsAt hb e)))
          ⟨z.1, z.2.1⟩
        have hl : (wipe σ vs).length = σ3.length := by rw [← hw3, wipe_length]
        refine ⟨(I'.unpinned (pins := pg)).weak hl (fun j v e => ?_), T.keep _ _ _ st2 fun b hb o e => (pin' b hb o e).1, fun b hb => ?_⟩
        · rw [← hw3] at e
          exact (wipe_some e).1
        · obtain ⟨o, e, _⟩ := T.obj _ _ st2 b hb
          exact (pin' b hb o e).2
      cases b with
      | false =>
        simp only [Bool.false_eq_true, if_false] at q4 ⊢
        obtain ⟨m', hm, w'⟩ := hNx _ _ q4
        obtain ⟨I5, st5, fr5⟩ := back I4
        exact seg_again rfl (ih m' hm n (i + 1) s₀ s4 H4 pg w' hF hs0 I5 st5 fr5)
      | true =>
        simp only [if_true] at q4 ⊢
        have hy : ∀ v, yieldOut XG.env v = yieldValue v := fun v => by simp only [yieldOut, hco, Bool.false_eq_true, if_false]
        simp only [hy]
        rw [Sem.bind_eq_wrap', Sem.bind_eq_wrap', Sem.wrap_wrap, Sem.wrap_wrap]
        refine seg_wrap (wk (he.run _ s4 σ3 H4 _ I4 q4) fun z s5 ⟨yv', H5, I5, r5, r, hn, ev, q6⟩ => ?_)
        subst ev hn
        obtain ⟨t5, rfl⟩ := r5
        refine seg_at (seg_yield rfl rfl rfl ⟨t5, pg, _, σ3, H5, rfl, hF, hs0, fun p hp q hq => hpf pg hF p hp q.1 (of_pinsAt hq).1, I5, fun pg' s' hF' I6' => ?_⟩)
        obtain ⟨m', hm, w'⟩ := hNx _ _ q6
        obtain ⟨I6, st6, fr6⟩ := back I6'
        exact seg_again rfl (ih m' hm r (i + 1) s' s' H5 pg' w' hF' (fun p hp => (I6'.pin p (List.mem_append_right _ (List.mem_append_left _ hp))).1) I6 st6 fr6)
theorem gen_startSegM {XG : Cx} {A : Around} {elt tg iter : Expr} {ifs : List Expr} {scope : Scope} {pos : Pos} {it : Addr} {fp : List Addr} {tn : Nat → Heap → Prop} {J : It} {g : TG} {tt : TT} {te : TE} {vs : List Nat} {Fam : List (Addr × Obj) → Prop} {σ : L2.St} {yv : Nat → Int} {Q : Hp → Prop} {W : Nat → Nat → Nat → Hp → Prop}
    (hA : XG.A = A.over (.compLoop (.GeneratorExp elt [⟨tg, iter, ifs, 0⟩] scope pos) 0 (.ref it) .none XG.env) []) (hex : XG.ex = fp) (hpn : XG.pn = []) (hpf : ∀ pg, Fam pg → ∀ p ∈ pg, ∀ b ∈ fp, p.1 ≠ b) (hc : XG.calm = true) (hco : XG.env.scope.isCoroutine = false) (hxe : XG.xe = fun _ _ => False)
    (T : Turn XG.prog XG.w XG.K tg J fp it tn) (hg : PG XG tg g) (ht : PTs XG ifs tt) (he : PE XG elt te) (gw : GWm J g tt te vs σ yv Q W) (m n : Nat) (s₀ s : Shared) (H : Hp) (pg : List (Addr × Obj)) (w : W 0 m n H) (hF : Fam pg) (hs0 : ∀ p ∈ pg, s₀.heap.get? p.1 = some p.2) (I : Inv XG pg (wipe σ vs) H s) (st : tn 0 s.heap) (fr : ∀ b ∈ fp, H b = none) :
      Seg (model XG.prog XG.w) A (GRm XG Fam Q) (GYm XG Fam yv) n s₀ (.compStart (.GeneratorExp elt [⟨tg, iter, ifs, 0⟩] scope pos) 0 (.ref it) .none XG.env)
        ((model XG.prog XG.w).den (.compStart (.GeneratorExp elt [⟨tg, iter, ifs, 0⟩] scope pos) 0 (.ref it) .none XG.env)) [] s := by
  have loop := gen_loopM hA hex hpn hpf hc hco hxe T hg ht he gw m n 0 s₀ s H pg w hF hs0 I st fr
  show Seg _ A _ _ _ s₀ _ ((compStart (.GeneratorExp elt [⟨tg, iter, ifs, 0⟩] scope pos) 0 (.ref it) .none XG.env).onRaise (leaving XG.env)) [] s
  unfold compStart
  rw [Sem.onRaise_eq_wrap]
  show Seg _ A _ _ _ s₀ _ ((ask >>= _).wrap _ _ _ _) [] s
  refine seg_bind_wrap (wpAny_askSetting ?_)
  split
  · exact seg_again rfl loop
  · first
      | exact seg_bind_wrap (wpAny_rule (seg_bind_wrap (wpAny_standAt (seg_bind_wrap (T.self _ 0 s _ _ st (seg_again rfl loop))))))
      | (refine seg_bind_wrap (wpAny_rule ?_); show Seg _ A _ _ _ s₀ _ ((standAt iter.pos >>= _).wrap _ _ _ _) [] s; exact seg_bind_wrap (wpAny_standAt (seg_bind_wrap (T.self _ 0 s _ _ st (seg_again rfl loop)))))
/-- the best of b and the values that are left -/
def bst (yv : Nat → Int) : Nat → Int → Int
  | 0, b => b
  | n + 1, b => bst yv n (if yv n > b then yv n else b)
section
variable {XG : Cx} {A : Around} {R : Result → Shared → Prop} {a S : Addr} {g : Nat} {og : Obj} {Q : Hp → Prop} {yv : Nat → Int}
def FamS (a S : Addr) (og : Obj) : List (Addr × Obj) → Prop := fun pg => ∃ its c, pg = [(a, og), (S, seqObj "list" its c)]
theorem famS_re {its its' : Array Value} {c c' : Nat} {pn : List (Addr × Obj)} {σ : L2.St} {H : Hp} {s s' : Shared} (hSa : S ≠ a) (hpnS : ∀ p ∈ pn, p.1 ≠ S) (hX : XG.pn = []) (hlo : XG.s_0.heap.objs.size ≤ S) (hcl : ∀ x c, XG.env.cells.lookup x = some c → c ≠ S)
    (I : Inv XG ([(a, og), (S, seqObj "list" its c)] ++ pn) σ H s) (ho : s'.os = s.os) (hb : AllBare s'.gens) (k : ∀ b o, b ≠ S → s.heap.get? b = some o → s'.heap.get? b = some o) (hS : s'.heap.get? S = some (seqObj "list" its' c')) :
    Inv XG ([(a, og), (S, seqObj "list" its' c')] ++ pn) σ H s' := by
  have pS := I.pin (S, seqObj "list" its c) (by simp)
  have pa := I.pin (a, og) (by simp)
  have I1 : Inv XG ((a, og) :: pn) σ H s := I.pins_of fun p hp => I.pin p (by
    rcases List.mem_cons.mp hp with rfl | hp
    · simp
    · simp [hp])
  have I2 : Inv XG ((a, og) :: pn) σ H { s with heap := s'.heap } := I1.turned (it := S) k pS.2.1 pS.2.2.1 (.inr hlo) hcl fun p hp => by
    rw [hX, List.nil_append] at hp
    rcases List.mem_cons.mp hp with rfl | hp
    · exact hSa.symm
    · exact hpnS p hp
  have I3 : Inv XG ((a, og) :: pn) σ H s' := I2.slept ⟨ho, hb, fun _ _ e => e⟩
  refine I3.pins_of fun p hp => ?_
  simp only [List.cons_append, List.nil_append, List.mem_cons] at hp
  rcases hp with rfl | rfl | hp
  · exact I3.pin _ (by simp)
  · exact ⟨hS, pS.2.1, pS.2.2.1, pS.2.2.2.1, fun v z => by cases z⟩
  · exact I3.pin _ (by simp [hp])
theorem maxG_loop (hh : A.handled = none) (hroom : A.depth < recursionLimit) (hog : ∀ h : Heap, h.get? a = some og → h.IsGen a g) (hSa : S ≠ a) (hX : XG.pn = []) (hlo : XG.s_0.heap.objs.size ≤ S) (hcl : ∀ x c, XG.env.cells.lookup x = some c → c ≠ S) :
    ∀ (n : Nat) (s : Shared) (b : Int) (tb : Tok) (c : Nat), s.heap.get? S = some (seqObj "list" #[.int b tb, .int b tb] c) → s.heap.get? a = some og → s.heap.NoLimit →
      (∃ gs, s.gens[g]? = some gs ∧ gs.Goes (model XG.prog XG.w) A.in1.in1 (GRm XG (FamS a S og) Q) (GYm XG (FamS a S og) yv) n (.send .none) (s.setGen g .running)) →
      (∀ t (s1 s' : Shared), (∃ its c σ H, Inv XG [(a, og), (S, seqObj "list" its c)] σ H s1 ∧ Q H) → s'.os = s1.os → AllBare s'.gens → (∀ c o, c ≠ S → s1.heap.get? c = some o → s'.heap.get? c = some o) → R (.ok (.ret (.int (bst yv n b) t))) s') →
      codeAny (model XG.prog XG.w) A (.builtin "max.loop" ⟨[.ref a, .none, .ref S], []⟩) R s := by
  have hname : (toString "max" ++ toString ".loop" : String) = "max.loop" := by decide
  intro n
  induction n with
  | zero =>
    intro s b tb c hS ha hl ⟨gs, hgs, hgo⟩ fin
    refine codeAny_builtin F.entry_max_loop ?_
    rw [Around.under_plainId F.plain_max_loop _]
    show wpAny _ A.in1 (seqItems? (.ref S) >>= _) _ _ _
    refine wpAny_bind (wpAny_seqItems hS rfl ?_)
    show wpAny _ A.in1 (tryCatch (pyNext (.ref a)) _ >>= _) _ _ _
    refine wpAny_bind (wpAny_tryCatch (next_genG (A := A.in1) (F := fun n s₀ s1 => n = 0 ∧ ∃ pg σ H, FamS a S og pg ∧ (∀ p ∈ pg, s₀.heap.get? p.1 = some p.2) ∧ Inv XG pg σ H s1 ∧ Q H) (Er := fun _ _ => False) hh hl hroom (hog _ ha) hgs hgo (fun v s₁ gs' hbare hv => ?_) (fun s₁ hp h' hk => ?_) fun e s₁ he => he.elim))
    · obtain ⟨t, pg, pn, σ, H, rfl, hF, hp0, hne, I, kap⟩ := hv
      exact False.elim (kap pg s₁ hF I)
    · obtain ⟨_, pg, σ, H, ⟨its, c', rfl⟩, hp0, I, q⟩ := hp
      have pS := (I.pin (S, seqObj "list" its c') (by simp)).1
      have e0 := hp0 (S, seqObj "list" its c') (by simp)
      have e0 : s.heap.get? S = some (seqObj "list" its c') := e0
      have pS' := hk _ _ pS
      show wpAny _ A.in1 (updateSeq S (fun _ => #[]) >>= _) _ _ _
      refine wpAny_bind ?_
      rw [e0] at hS
      cases hS
      refine wpAny_updateSeq pS' rfl (wpAny_bind (wpAny_letGo (wpAny_pure ?_)))
      have s1 := Heap.SameBut.update h' S (Obj.mapSeq fun _ => (#[] : Array Value))
      exact fin tb s₁ _ ⟨_, _, σ, H, I, q⟩ rfl (allBare_setGen I.bare rfl) fun c o hc e => (s1.2 c hc).trans (hk c o e)
  | succ n ih =>
    intro s b tb c hS ha hl ⟨gs, hgs, hgo⟩ fin
    have hgl : g < s.gens.size := (Array.getElem?_eq_some_iff.mp hgs).1
    refine codeAny_builtin F.entry_max_loop ?_
    rw [Around.under_plainId F.plain_max_loop _]
    show wpAny _ A.in1 (seqItems? (.ref S) >>= _) _ _ _
    refine wpAny_bind (wpAny_seqItems hS rfl ?_)
    show wpAny _ A.in1 (tryCatch (pyNext (.ref a)) _ >>= _) _ _ _
    refine wpAny_bind (wpAny_tryCatch (wpAny_gsz (n := g + 1) hgl (next_genG (A := A.in1) (F := fun n s₀ s1 => n = 0 ∧ ∃ pg σ H, FamS a S og pg ∧ (∀ p ∈ pg, s₀.heap.get? p.1 = some p.2) ∧ Inv XG pg σ H s1 ∧ Q H) (Er := fun _ _ => False) hh hl hroom (hog _ ha) hgs hgo (fun v s₁ gs' hbare hv => ?_) (fun s₁ hp h' hk => ?_) fun e s₁ he => he.elim)))
    · intro hsz
      obtain ⟨t, pg, pn, σ, H, rfl, hF, hp0, hne, I, kap⟩ := hv
      obtain ⟨its, c', rfl⟩ := hF
      have pS := (I.pin (S, seqObj "list" its c') (by simp)).1
      have pa := (I.pin (a, og) (by simp)).1
      have e0 : s.heap.get? S = some (seqObj "list" its c') := hp0 (S, seqObj "list" its c') (by simp)
      have hnS : ∀ p ∈ pn, p.1 ≠ S := fun p hp => (hne (S, seqObj "list" its c') (by simp) p hp).symm
      rw [e0] at hS
      cases hS
      have hsz1 : g < s₁.gens.size := by
        have q : (s₁.setGen g gs').gens.size = s₁.gens.size := setGen_size _ _ _
        have hsz' : g + 1 ≤ (s₁.setGen g gs').gens.size := hsz
        omega
      refine wpAny_bind (wpAny_pure ?_)
      show wpAny _ A.in1 (tryCatch (holding [.int (yv n) t, .int (yv n) t] (richCompare .Gt (.int (yv n) t) (.int b tb) >>= _)) _ >>= _) _ _ _
      refine wpAny_bind (wpAny_tryCatch (wpAny_holding (wpAny_bind (richCompare_gives (op := .Gt) (typeIs_int _ _ t) (typeIs_int _ _ tb) F.slot_int_gt F.entry_int_gt (F.args_int_gt_2 _ _) (gives_int_gt _ _ t tb) (fun x => nomatch x) ?_))))
      refine wpAny_bind (wpAny_holding (wpAny_truthy_bool ?_))
      refine wpAny_bind (wpAny_letGo (wpAny_pure ?_))
      by_cases hb' : yv n > b
      · simp only [hb', decide_true, if_true]
        have s1 := Heap.SameBut.update s₁.heap S (Obj.mapSeq fun _ => #[Value.int (yv n) t, .int (yv n) t])
        obtain ⟨c2, hc2⟩ : ∃ c2, (s₁.heap.update S (Obj.mapSeq fun _ => #[Value.int (yv n) t, .int (yv n) t])).get? S = some (seqObj "list" #[.int (yv n) t, .int (yv n) t] c2) := ⟨_, get?_update_seq pS fun _ => #[.int (yv n) t, .int (yv n) t]⟩
        refine wpAny_bind ?_
        refine wpAny_updateSeq (s := s₁.setGen g gs') pS rfl (wpAny_bind (wpAny_letGo ?_))
        rw [hname]
        have I' : Inv XG ([(a, og), (S, seqObj "list" #[.int (yv n) t, .int (yv n) t] c2)] ++ pn) σ H { s₁.setGen g gs' with heap := s₁.heap.update S (Obj.mapSeq fun _ => #[Value.int (yv n) t, .int (yv n) t]) } :=
          famS_re hSa hnS hX hlo hcl I rfl (allBare_setGen I.bare hbare) (fun b o hb e => (s1.2 b hb).trans e) hc2
        refine wpAny_pure ⟨plainId_quiet F.plain_max_loop _, ih _ (yv n) t c2 hc2 ((s1.2 a hSa.symm).trans pa) I'.nolimit ⟨gs', setGen_at hsz1, kap _ _ ⟨_, _, rfl⟩ (I'.slept ⟨rfl, allBare_setGen I'.bare rfl, fun _ _ e => e⟩)⟩ fun t s1 s' h1 h2 h3 h4 => ?_⟩
        have := fin t s1 s' h1 h2 h3 h4
        simp only [bst, hb', if_true] at this
        exact this
      · simp only [hb', decide_false, Bool.false_eq_true, if_false]
        have I' := I.slept (s' := s₁.setGen g gs') ⟨rfl, allBare_setGen I.bare hbare, fun _ _ e => e⟩
        refine wpAny_bind (wpAny_letGo ?_)
        rw [hname]
        refine wpAny_pure ⟨plainId_quiet F.plain_max_loop _, ih (s₁.setGen g gs') b tb _ pS pa I'.nolimit ⟨gs', setGen_at hsz1, kap _ _ ⟨_, _, rfl⟩ (I'.slept ⟨rfl, allBare_setGen I'.bare rfl, fun _ _ e => e⟩)⟩ fun t s1 s' h1 h2 h3 h4 => ?_⟩
        have := fin t s1 s' h1 h2 h3 h4
        simp only [bst, hb', if_false] at this
        exact this
    · intro hsz
      obtain ⟨h0, _⟩ := hp
      exact absurd h0 (Nat.succ_ne_zero _)
theorem maxG (hh : A.handled = none) (hroom : A.depth < recursionLimit) (hog : ∀ h : Heap, h.get? a = some og → h.IsGen a g) (hSa : S ≠ a) (hX : XG.pn = []) (hlo : XG.s_0.heap.objs.size ≤ S) (hcl : ∀ x c, XG.env.cells.lookup x = some c → c ≠ S)
    (n : Nat) (s : Shared) (hS : s.heap.get? S = some (seqObj "list" #[] 0)) (ha : s.heap.get? a = some og) (hl : s.heap.NoLimit)
    (hgo : ∃ gs, s.gens[g]? = some gs ∧ gs.Goes (model XG.prog XG.w) A.in1.in1 (GRm XG (FamS a S og) Q) (GYm XG (FamS a S og) yv) (n + 1) (.send .none) (s.setGen g .running))
    (fin : ∀ t (s1 s' : Shared), (∃ its c σ H, Inv XG [(a, og), (S, seqObj "list" its c)] σ H s1 ∧ Q H) → s'.os = s1.os → AllBare s'.gens → (∀ c o, c ≠ S → s1.heap.get? c = some o → s'.heap.get? c = some o) → R (.ok (.ret (.int (bst yv n (yv n)) t))) s') :
      codeAny (model XG.prog XG.w) A (.builtin "max.loop" ⟨[.ref a, .none, .ref S], []⟩) R s := by
  have hname : (toString "max" ++ toString ".loop" : String) = "max.loop" := by decide
  obtain ⟨gs, hgs, hgo⟩ := hgo
  have hgl : g < s.gens.size := (Array.getElem?_eq_some_iff.mp hgs).1
  refine codeAny_builtin F.entry_max_loop ?_
  rw [Around.under_plainId F.plain_max_loop _]
  show wpAny _ A.in1 (seqItems? (.ref S) >>= _) _ _ _
  refine wpAny_bind (wpAny_seqItems hS rfl ?_)
  show wpAny _ A.in1 (tryCatch (pyNext (.ref a)) _ >>= _) _ _ _
  refine wpAny_bind (wpAny_tryCatch (wpAny_gsz (n := g + 1) hgl (next_genG (A := A.in1) (F := fun n s₀ s1 => n = 0 ∧ ∃ pg σ H, FamS a S og pg ∧ (∀ p ∈ pg, s₀.heap.get? p.1 = some p.2) ∧ Inv XG pg σ H s1 ∧ Q H) (Er := fun _ _ => False) hh hl hroom (hog _ ha) hgs hgo (fun v s₁ gs' hbare hv => ?_) (fun s₁ hp h' hk => ?_) fun e s₁ he => he.elim)))
  · intro hsz
    obtain ⟨t, pg, pn, σ, H, rfl, hF, hp0, hne, I, kap⟩ := hv
    obtain ⟨its, c', rfl⟩ := hF
    have pS := (I.pin (S, seqObj "list" its c') (by simp)).1
    have pa := (I.pin (a, og) (by simp)).1
    have e0 : s.heap.get? S = some (seqObj "list" its c') := hp0 (S, seqObj "list" its c') (by simp)
    have hnS : ∀ p ∈ pn, p.1 ≠ S := fun p hp => (hne (S, seqObj "list" its c') (by simp) p hp).symm
    rw [e0] at hS
    cases hS
    have hsz1 : g < s₁.gens.size := by
      have q : (s₁.setGen g gs').gens.size = s₁.gens.size := setGen_size _ _ _
      have hsz' : g + 1 ≤ (s₁.setGen g gs').gens.size := hsz
      omega
    refine wpAny_bind (wpAny_pure ?_)
    have s1 := Heap.SameBut.update s₁.heap S (Obj.mapSeq fun _ => #[Value.int (yv n) t, .int (yv n) t])
    obtain ⟨c2, hc2⟩ : ∃ c2, (s₁.heap.update S (Obj.mapSeq fun _ => #[Value.int (yv n) t, .int (yv n) t])).get? S = some (seqObj "list" #[.int (yv n) t, .int (yv n) t] c2) := ⟨_, get?_update_seq pS fun _ => #[.int (yv n) t, .int (yv n) t]⟩
    show wpAny _ A.in1 (updateSeq S (fun _ => #[Value.int (yv n) t, .int (yv n) t]) >>= _) _ _ _
    refine wpAny_bind ?_
    refine wpAny_updateSeq (s := s₁.setGen g gs') pS rfl ?_
    rw [hname]
    have I' : Inv XG ([(a, og), (S, seqObj "list" #[.int (yv n) t, .int (yv n) t] c2)] ++ pn) σ H { s₁.setGen g gs' with heap := s₁.heap.update S (Obj.mapSeq fun _ => #[Value.int (yv n) t, .int (yv n) t]) } :=
      famS_re hSa hnS hX hlo hcl I rfl (allBare_setGen I.bare hbare) (fun b o hb e => (s1.2 b hb).trans e) hc2
    exact wpAny_pure ⟨plainId_quiet F.plain_max_loop _, maxG_loop hh hroom hog hSa hX hlo hcl n _ (yv n) t c2 hc2 ((s1.2 a hSa.symm).trans pa) I'.nolimit ⟨gs', setGen_at hsz1, kap _ _ ⟨_, _, rfl⟩ (I'.slept ⟨rfl, allBare_setGen I'.bare rfl, fun _ _ e => e⟩)⟩ fin⟩
  · intro hsz
    obtain ⟨h0, _⟩ := hp
    exact absurd h0 (Nat.succ_ne_zero _)
end
end PG
set_option Elab.async false
set_option linter.all false
set_option maxRecDepth 100000
set_option maxHeartbeats 4000000
namespace PG
open PySem PySem.Spec PyProof.Rows L2 GenW
section
variable {X : Cx} {pins : List (Addr × Obj)} {σ : L2.St} {H : Hp} {s : Shared}
/-- max(elt for tg in iter if ..) -/
def tGmax (P : Addr) (wi : TI) (g : TG) (tt : TT) (te : TE) (vs : List Nat) : TE := fun σ H Q => wi σ H fun J H1 => GxR.TabG H1 P ∧ ∀ H2, GxR.Tabbed P H1 H2 → ∃ (n : Nat) (yv : Nat → Int) (W : Nat → Nat → Nat → Hp → Prop), (∃ m, W 0 m (n + 1) H2) ∧ GWm J g tt te vs σ yv (fun H' => Q (.int (bst yv n (yv n))) H') W
theorem pe_gmax {c P : Addr} {elt tg iter : Expr} {ifs : List Expr} {p pos gpos : Pos} {scope : Scope} {own : List (Str × Nat)} {wi : TI} {g : TG} {tt : TT} {te : TE} {k : Nat}
    (hc : X.calm = true) (hr : Room (k + 1) X.A) (hgl : Gl X "max") (hm : X.mg "max" = none) (TB : GxR.TabB X.base X.mg c P) (hcode : X.env.code = .ref c) (hN : X.N.Nodup) (ok : GenOk X.N X.env.scope scope own) (hi : PI X tg iter wi)
    (hg : ∀ (s : Shared) (H : Hp) (C : Addr) (code : Value) (A : Around) (fp : List Addr), Room k A → PG (gCx X s H (gEnv X scope C code) A fp) tg g)
    (ht : ∀ (s : Shared) (H : Hp) (C : Addr) (code : Value) (A : Around) (fp : List Addr), Room k A → PTs (gCx X s H (gEnv X scope C code) A fp) ifs tt)
    (he : ∀ (s : Shared) (H : Hp) (C : Addr) (code : Value) (A : Around) (fp : List Addr), Room k A → PE (gCx X s H (gEnv X scope C code) A fp) elt te)
    (hs : ∀ v, genFold iter X.env v = pure v) (hco : scope.isCoroutine = false) :
    PE X (.Call (.Name "max" p) [.GeneratorExp elt [⟨tg, iter, ifs, 0⟩] scope gpos] [] pos) (tGmax P wi g tt te (own.map (·.2))) := by
  have hst : starEach [.GeneratorExp elt [⟨tg, iter, ifs, 0⟩] scope gpos] X.env = (false, eval (.GeneratorExp elt [⟨tg, iter, ifs, 0⟩] scope gpos) X.env) :: starEach [] X.env := rfl
  have hname : (toString "max" ++ toString ".loop" : String) = "max.loop" := by decide
  refine ⟨fun pins s σ H Q I h => ?_⟩
  refine wpAny_Call_Name_kw (ld_blt I hgl hm (by decide +kernel : bootBuiltins "max" = some (.builtin "max")) ?_)
  refine PyProof.Rows.callWith_builtin1 ?_ hst (by rfl)
  rw [hst]
  show wpAny _ _ (spliced ((false, eval (.GeneratorExp elt [⟨tg, iter, ifs, 0⟩] scope gpos) X.env) :: backTo pos (starEach [] X.env))) _ _ s
  refine Calls.spliced_cons (gen_make hr TB hcode ok hi hs I h fun J H1 H4 it fp tn s4 code h' t1 t2 t3 hW hT I4 T st4 f4 hn hsb => ?_)
  refine Calls.spliced_nil ?_
  refine call_function_tree F.kind_max F.plain_max F.entry_max (F.args_max1 _) ?_
  show wpAny _ _ (Builtin.Builtins.bindParams "max" ["key", "default"] 0 ⟨[], []⟩ >>= _) _ _ _
  refine wpAny_bind (wpAny_of_eq (show Builtin.Builtins.bindParams "max" ["key", "default"] 0 ⟨[], []⟩ = pure [none, none] from rfl) ?_)
  refine wpAny_bind (wpAny_pure ?_)
  obtain ⟨n, yv, W, ⟨m, w⟩, gw⟩ := hW H4 hT
  generalize hs5 : ({ s4 with
            gens := s4.gens.push (.fresh (.compStart (.GeneratorExp elt [⟨tg, iter, ifs, 0⟩] scope gpos) 0 (.ref it) .none (gEnv X scope s4.heap.objs.size code))),
            toks := t3,
            heap := h'.push { cls := .type "generator", data := .fields #[.int s4.gens.size 0, .str "<genexpr>" t1, .str (X.env.qual ++ "<genexpr>") t2] } } : Shared) = s5
  have AGr : Room k ((X.A.in1.in1).over (.compLoop (.GeneratorExp elt [⟨tg, iter, ifs, 0⟩] scope gpos) 0 (.ref it) .none (gEnv X scope s4.heap.objs.size code)) []) :=
    ⟨hr.hd, by have := hr.dp; show X.A.depth + 0 + 1 + 3 * k + 5 < _; omega, by have := hr.un; show X.A.units + 1 + 1 + 0 + 3 + 16 * k + 200 < _; omega⟩
  have AGf : ((X.A.in1.in1).over (.compLoop (.GeneratorExp elt [⟨tg, iter, ifs, 0⟩] scope gpos) 0 (.ref it) .none (gEnv X scope s4.heap.objs.size code)) []).frames = some (gEnv X scope s4.heap.objs.size code :: X.stack) := by
    have e : X.A.frames = some X.stack := I4.ok.frames
    show pushEnvs [gEnv X scope s4.heap.objs.size code] (pushEnvs [] X.A.frames) = _
    rw [e]
    rfl
  have I5 := gen_start (gs := .fresh (.compStart (.GeneratorExp elt [⟨tg, iter, ifs, 0⟩] scope gpos) 0 (.ref it) .none (gEnv X scope s4.heap.objs.size code))) (tk := t3) (gobj := { cls := .type "generator", data := .fields #[.int s4.gens.size 0, .str "<genexpr>" t1, .str (X.env.qual ++ "<genexpr>") t2] }) I4 ok hN f4 AGf hr.hd rfl (fun v z => by cases z) rfl hn hsb
  rw [hs5] at I5
  have hgen : ∀ h : Heap, h.get? h'.objs.size = some { cls := .type "generator", data := .fields #[.int s4.gens.size 0, .str "<genexpr>" t1, .str (X.env.qual ++ "<genexpr>") t2] } → h.IsGen h'.objs.size s4.gens.size := fun h e => ⟨_, _, _, e, rfl, rfl, rfl⟩
  have gA : s5.heap.get? h'.objs.size = some { cls := .type "generator", data := .fields #[.int s4.gens.size 0, .str "<genexpr>" t1, .str (X.env.qual ++ "<genexpr>") t2] } := by
    rw [← hs5]
    exact Heap.get?_push_size _ rfl
  refine wpAny_bind (wpAny_pyIter_gen (hgen _ gA) ?_)
  refine wpAny_bind (wpAny_newList ?_ (Nat.zero_le _))
  rw [hname]
  refine wpAny_pure ⟨plainId_quiet F.plain_max_loop _, ?_⟩
  -- the list of the best one
  have hgo5 : s5.gens[s4.gens.size]? = some (.fresh (.compStart (.GeneratorExp elt [⟨tg, iter, ifs, 0⟩] scope gpos) 0 (.ref it) .none (gEnv X scope s4.heap.objs.size code))) := by
    rw [← hs5]
    exact Array.getElem?_push_size ..
  have sz4 : s4.heap.objs.size ≤ s5.heap.objs.size := by
    have h1 := hsb.1
    rw [Heap.size_push] at h1
    rw [← hs5, Heap.size_push]
    omega
  have lt5 : h'.objs.size < s5.heap.objs.size := Heap.lt_size gA
  have st5 : tn 0 s5.heap := T.keep _ _ _ st4 fun b hb o e => by
    show s5.heap.get? b = some o
    rw [← hs5]
    exact Heap.get?_push_of_some _ (hsb.extBut b o (Nat.ne_of_lt (Heap.lt_size e)) (Heap.get?_push_of_some _ e))
  generalize hXG : gCx X s4 H4 (gEnv X scope s4.heap.objs.size code) ((X.A.in1.in1).over (.compLoop (.GeneratorExp elt [⟨tg, iter, ifs, 0⟩] scope gpos) 0 (.ref it) .none (gEnv X scope s4.heap.objs.size code)) []) fp = XG at I5
  generalize hog : ({ cls := .type "generator", data := .fields #[.int s4.gens.size 0, .str "<genexpr>" t1, .str (X.env.qual ++ "<genexpr>") t2] } : Obj) = og at I5 gA hgen
  generalize hS : s5.heap.objs.size = S at *
  have fS := I5.fpOk (b := S) (H' := H4) (by omega) (I5.hok.fresh (by omega))
  obtain ⟨f0, f1, f2, f3, f4', f5⟩ := fS
  have k6 : ∀ b o, s5.heap.get? b = some o → (s5.heap.push { cls := .type "list", data := .seq ([] : List Value).toArray }).get? b = some o := fun b o e => Heap.get?_push_of_some _ e
  have gS : (s5.heap.push { cls := .type "list", data := .seq ([] : List Value).toArray }).get? S = some (seqObj "list" #[] 0) := by
    rw [← hS]
    exact Heap.get?_push_size _ rfl
  have I6a : Inv XG [(h'.objs.size, og)] (wipe σ (own.map (·.2))) H4 { s5 with heap := s5.heap.push { cls := .type "list", data := .seq ([] : List Value).toArray } } := I5.kept (t' := s5.toks) k6
  have I6 : Inv XG [(h'.objs.size, og), (S, seqObj "list" #[] 0)] (wipe σ (own.map (·.2))) H4 { s5 with heap := s5.heap.push { cls := .type "list", data := .seq ([] : List Value).toArray } } := I6a.pins_of fun p hp => by
    simp only [List.mem_cons, List.mem_nil_iff, or_false] at hp
    rcases hp with rfl | rfl
    · exact I6a.pin _ (by simp)
    · exact ⟨gS, f0, f1, f2, fun v z => by cases z⟩
  have hlo : XG.s_0.heap.objs.size ≤ S := by
    rw [← hXG]
    show s4.heap.objs.size ≤ S
    omega
  have hlo' : s4.heap.objs.size ≤ S := by omega
  have ep : XG.prog = X.prog := by rw [← hXG]
  have ew : XG.w = X.w := by rw [← hXG]
  have eX : XG.pn = [] := by rw [← hXG]
  have fin : ∀ t (s1 s' : Shared), (∃ its c σ' H', Inv XG [(h'.objs.size, og), (S, seqObj "list" its c)] σ' H' s1 ∧ Q (.int (bst yv n (yv n))) H') → s'.os = s1.os → AllBare s'.gens → (∀ c o, c ≠ S → s1.heap.get? c = some o → s'.heap.get? c = some o) → EP X pins σ Q (.int (bst yv n (yv n)) t) s' := by
    rintro t s1 s' ⟨its, c, σ', H', I1, q⟩ os hb hk
    have pS := I1.pin (S, seqObj "list" its c) (by simp)
    have pa := I1.pin (h'.objs.size, og) (by simp)
    have I2 : Inv XG [(h'.objs.size, og)] σ' H' { s1 with heap := s'.heap } := (I1.pins_of (pins' := [(h'.objs.size, og)]) fun p hp => by
      rw [List.mem_singleton.mp hp]
      exact pa).turned (it := S) hk pS.2.1 pS.2.2.1 (.inr hlo) f4' fun p hp => by
        rw [eX, List.nil_append] at hp
        rw [List.mem_singleton.mp hp]
        exact Nat.ne_of_lt lt5
    have os1 : s1.os = s4.os := by
      have := I1.os
      rw [← hXG] at this
      exact this
    have u : Un (frs X.stack) fp H4 H' s4.heap s'.heap := by
      have := I2.base
      rw [← hXG] at this
      exact this
    have hok : HOk X.prog X.w H' s'.heap := by
      have := I2.hok
      rw [← hXG] at this
      exact this
    exact ⟨.int (bst yv n (yv n)), H', I4.call' (ch := fp) (os.trans os1) u hok hb fun c hc => (by
      obtain ⟨f0, f1, f2, f3, f4', f5⟩ := (f4 c hc).1
      exact ⟨f3, f1, f4', f5⟩), ⟨t, rfl⟩, q⟩
  show codeAny (model X.prog X.w) X.A (.builtin "max.loop" ⟨[.ref h'.objs.size, .none, .ref S], []⟩) _ _
  rw [← ep, ← ew]
  refine maxG (XG := XG) (A := X.A) (S := S) (a := h'.objs.size) (og := og) (g := s4.gens.size) (Q := fun H' => Q (.int (bst yv n (yv n))) H') (yv := yv) hr.hd (have := hr.dp; (by omega)) hgen (Nat.ne_of_gt lt5) eX hlo f4' n _ gS (k6 _ _ gA) I6.nolimit ⟨_, hgo5, ?_⟩ ?_
  · have J6 := I6.slept (s' := ({ s5 with heap := s5.heap.push { cls := .type "list", data := .seq ([] : List Value).toArray } } : Shared).setGen s4.gens.size .running) ⟨rfl, allBare_setGen I6.bare rfl, fun _ _ e => e⟩
    refine ⟨rfl, ?_⟩
    subst hXG
    refine gen_startSegM (XG := gCx X s4 H4 (gEnv X scope s4.heap.objs.size code) ((X.A.in1.in1).over (.compLoop (.GeneratorExp elt [⟨tg, iter, ifs, 0⟩] scope gpos) 0 (.ref it) .none (gEnv X scope s4.heap.objs.size code)) []) fp) rfl rfl rfl ?_ hc hco rfl T (hg _ _ _ _ _ _ AGr) (ht _ _ _ _ _ _ AGr) (he _ _ _ _ _ _ AGr) gw m (n + 1) _ _ H4 _ w ⟨_, _, rfl⟩ ?_ J6 ?_ fun b hb => (f4 b hb).1.1
    · rintro pg ⟨its, c, rfl⟩ p hp b hb
      have h1 := (f4 b hb).2
      have h2 : h'.objs.size = s4.heap.objs.size + 1 := by rw [hsb.1, Heap.size_push]
      simp only [List.mem_cons, List.mem_nil_iff, or_false] at hp
      rcases hp with rfl | rfl
      · exact Nat.ne_of_gt (Nat.lt_of_lt_of_le h1 (by rw [h2]; exact Nat.le_succ _))
      · exact Nat.ne_of_gt (Nat.lt_of_lt_of_le h1 hlo')
    · intro p hp
      exact (I6.pin p (by simpa using hp)).1
    · exact T.keep _ _ _ st5 fun b hb o e => k6 b o e
  · exact fin
end
end PG
set_option Elab.async false
set_option linter.all false
set_option maxRecDepth 100000
set_option maxHeartbeats 4000000
namespace PV
open PySem PySem.Spec PyProof.Rows L2
variable [Tabs]

/-! ## all(.. for ..), any(.. for ..) -/
def gLoop (stop : Bool) (g : GT) (c : SM Bool) (el : SE) (vs : List Nat) : List D → Env → R Bool
  | [], e => .ok (!stop) e
  | d :: ds, e => match g d (wipeE e vs) with
    | some e1 => (match c e1 with
      | .ok b e2 => if b = true then (match el e2 with
        | .ok (.bl v) e3 => if v = stop then .ok stop e3 else gLoop stop g c el vs ds e3
        | _ => .bad) else gLoop stop g c el vs ds e2
      | _ => .bad)
    | none => .bad
def sGen (stop : Bool) (it : SI) (g : GT) (c : SM Bool) (el : SE) (vs : List Nat) : SE := fun e => (it e).bind fun ds e1 => (gLoop stop g c el vs ds e1).bind fun b e2 => .ok (.bl b) (restE e1 e2 vs)
theorem Ext.tabbed {P : Addr} {B : List Addr} {H H' : Hp} {F : Addr → Prop} (g : TabK H P) (t : GxR.Tabbed P H H') : Ext B H F H' F := by
  obtain ⟨ps, hP, _⟩ := g
  obtain ⟨t1, t2⟩ := t
  have off : ∀ {a : Addr} {o : HO}, H a = some o → (∀ q, o ≠ .tbl q) → H' a = some o := fun {a o} h n => by
    rw [t2 a fun e => by rw [e, hP] at h; cases h; exact n _ rfl]; exact h
  refine ⟨fun a xs h => off h (fun q z => by cases z), fun a o u h => off h (fun q z => by cases z), fun a xs h _ => off h (fun q z => by cases z), fun a h => ?_, fun a h => ?_, fun _ h => h, fun _ h => .inl h, fun _ h n => absurd h n⟩
  · rw [← t2 a fun e => by
      obtain ⟨qs, h2, _⟩ := t1
      rw [e, h2] at h; cases h]
    exact h
  · by_cases e : a = P
    · rw [e]; exact t1
    · obtain ⟨qs, h2, h3⟩ := h
      exact ⟨qs, by rw [t2 a e]; exact h2, h3⟩
section
variable {K : PySem.W.Frag} {cv : Nat → Value} {W : WX}
theorem sGen_read {P : Addr} (hT : Tabs.T P) {stop : Bool} {it : SI} {g : GT} {c : SM Bool} {el : SE} {vs : List Nat} {σ : L2.St} {H : Hp} {Q : VK} (h : sm K cv W (rD K) (sGen stop it g c el vs) σ H Q) :
    PG.tGen P stop (si K cv W it) (gT K (kpv vs) g) (sm K cv WF rB c) (sm K cv WF (rD K) el) vs σ H Q := by
  obtain ⟨F0, env0, B0, w0, f0⟩ := h
  refine ⟨F0, env0, B0, w0, ?_⟩
  simp only [sGen] at f0
  cases e0 : it env0 with
  | bad => rw [e0] at f0; exact f0
  | exc c e' => rw [e0] at f0; exact f0
  | ok ds env1 =>
    rw [e0] at f0
    intro J H1 F1 B1 x1 w1 s1 st
    have f1 : Fin K cv W (rD K) σ H1 F1 B1 Q ((gLoop stop g c el vs ds env1).bind fun b e2 => .ok (.bl b) (restE env1 e2 vs)) := Fin.step x1 s1 f0
    refine ⟨w1.tab P hT, fun H2 tb => ?_⟩
    have xt : Ext B1 H1 F1 H2 F1 := Ext.tabbed (w1.tab P hT) tb
    have xt0 : Ext [] H1 F1 H2 F1 := Ext.tabbed (w1.tab P hT) tb
    -- the end
    have fin : ∀ {H' : Hp} {F' : Addr → Prop} {env' : Env} {B' : List Addr} {σ' : L2.St} {b : Bool}, Ext B1 H1 F1 H' F' → Wl K σ' H' F' env' B' → (∀ j, j ∉ vs → σ'[j]? = σ[j]?) → σ'.length = σ.length → Sub B' B1 H1 → Fin K cv W (rD K) σ H1 F1 B1 Q (.ok (.bl b) (restE env1 env' vs)) → Q (.bl b) H' := by
      intro H' F' env' B' σ' b x w hσ hl s f
      obtain ⟨Br, r1, r2⟩ := EnvR.rest (e0 := env1) (H := H') (F := F') w1.er (fun v d q => Fz.ext x w1.dis.notF _ _ q) w.er hσ hl
      exact f (.bl b) H' F' [] Br x ⟨r1, Le.dis r2 w.dis, w.tr, w.tab⟩ (fz_bl (F := F')).ow (Le.dis r2 w.dis) fun a ha => s a (r2.2 a ha)
    refine ⟨fun i m H' => m = ds.length - i ∧ i ≤ ds.length ∧ ∃ F' env' B' σ', Ext B1 H1 F1 H' F' ∧ Wl K σ' H' F' env' B' ∧ (∀ j, j ∉ vs → σ'[j]? = σ[j]?) ∧ σ'.length = σ.length ∧ Sub B' B1 H1 ∧
      Fin K cv W (rD K) σ H1 F1 B1 Q ((gLoop stop g c el vs (ds.drop i) env').bind fun b e2 => .ok (.bl b) (restE env1 e2 vs)), ⟨ds.length, by simp, Nat.zero_le _, F1, env1, B1, σ, xt, w1.ext xt0 (fun _ _ z => by cases z) (fun _ _ z => by cases z), fun _ _ => rfl, rfl, Sub.refl, by simpa using f1⟩, ?_⟩
    rintro i m H' ⟨rfl, hi, F', env', B', σ', x, w, hσ, hl, s, f⟩
    by_cases hlt : i < ds.length
    · refine .inr ⟨st.go i H' F' x hlt, fun H2 => ∃ F' env' B' σ', Ext B1 H1 F1 H2 F' ∧ Wl K σ' H2 F' env' B' ∧ (∀ j, j ∉ vs → σ'[j]? = σ[j]?) ∧ σ'.length = σ.length ∧ Sub B' B1 H1 ∧
        Fin K cv W (rD K) σ H1 F1 B1 Q ((gLoop stop g c el vs (ds.drop (i + 1)) env').bind fun b e2 => .ok (.bl b) (restE env1 e2 vs)), fun H2 q => ⟨_, by omega, rfl, hlt, q⟩, fun v H2 y => ?_⟩
      obtain ⟨d, hd, fz, x2⟩ := st.yld i H' F' v H2 x hlt y
      have e1 : ds.drop i = d :: ds.drop (i + 1) := by
        rw [List.getElem?_eq_getElem hlt] at hd
        cases hd
        exact List.drop_eq_getElem_cons hlt
      rw [e1] at f
      have hw : L2.wipe σ' vs = L2.wipe σ vs := wipe_eq hl hσ
      have nil : ∀ {P : Prop} (c : Addr), c ∈ ([] : List Addr) → P := fun c z => by cases z
      have w2 : Wl K σ' H2 F' env' B' := w.ext x2 (fun _ _ z => nil _ z) fun _ _ z => nil _ z
      obtain ⟨Bw, w3, sw⟩ := w2.wipe vs
      rw [hw] at w3
      simp only [gLoop] at f
      cases hg : g d (wipeE env' vs) with
      | none => rw [hg] at f; exact False.elim f
      | some e2 =>
        rw [hg] at f
        simp only [] at f
        refine ⟨F', wipeE env' vs, d, [], Bw, e2, w3, fz.ow, w3.dis, hg, fun σ3 H3 F3 B3 k3 x4 w4 s4 => ?_⟩
        refine ⟨kpv_wipe k3, ?_⟩
        have x4 : Ext Bw H2 F' H3 F3 := x4
        have s4 : Sub B3 Bw H2 := s4
        have way : ∀ {Hy : Hp} {Fy : Addr → Prop} {By : List Addr}, Ext Bw H2 F' Hy Fy → Sub By Bw H2 → Ext B1 H1 F1 Hy Fy ∧ Sub By B1 H1 := by
          intro Hy Fy By y1 y2
          have z1 : Ext B1 H1 F1 H2 F' := x.trans (x2.wk (B1 := B') fun c z => nil c z) s
          exact ⟨z1.trans y1 fun c hc => s c (sw.subset hc), Sub.trans (fun c hc => s c (sw.subset hc)) y2 z1.fr⟩
        have hσ3 : ∀ j, j ∉ vs → σ3[j]? = σ[j]? := fun j hj => by rw [k3.2 j (by simp [kpv, hj]), wipe_get hj]
        have hl3 : σ3.length = σ.length := by rw [k3.1, wipe_length]
        refine ⟨F3, e2, B3, w4, ?_⟩
        cases hc : c e2 with
        | bad => rw [hc] at f; exact False.elim f
        | exc cc e' => rw [hc] at f; exact False.elim f
        | ok b e3 =>
          rw [hc] at f
          simp only [] at f
          intro vb H4 F4 A4 B4 x5 w5 p5 d5 s5
          obtain ⟨rfl, rfl⟩ := p5
          have s5 : Sub B4 B3 H3 := s5
          have y4 : Ext Bw H2 F' H4 F4 := x4.trans x5 s4
          have t4 : Sub B4 Bw H2 := s4.trans s5 x4.fr
          cases vb with
          | false =>
            simp only [Bool.false_eq_true, if_false] at f ⊢
            obtain ⟨u1, u2⟩ := way y4 t4
            exact ⟨F4, e3, B4, σ3, u1, w5, hσ3, hl3, u2, f⟩
          | true =>
            simp only [if_true] at f ⊢
            refine ⟨F4, e3, B4, w5, ?_⟩
            cases he : el e3 with
            | bad => rw [he] at f; exact False.elim f
            | exc cc e' => rw [he] at f; exact False.elim f
            | ok y e4 =>
              rw [he] at f
              intro vy H5 F5 A5 B5 x6 w6 p6 d6 s6
              cases y <;> try (exact False.elim f)
              rename_i bv
              simp only [] at f
              have p6' : Ow K H5 F5 vy (.bl bv) A5 := p6
              simp only [Ow] at p6'
              obtain ⟨rfl, rfl⟩ := p6'
              have y5 : Ext Bw H2 F' H5 F5 := y4.trans x6 t4
              have t5 : Sub B5 Bw H2 := Sub.trans t4 s6 y4.fr
              obtain ⟨u1, u2⟩ := way y5 t5
              refine ⟨bv, rfl, fun hb => ?_, fun hb => ?_⟩
              · rw [if_pos hb] at f
                exact fin u1 w6 hσ3 hl3 u2 f
              · rw [if_neg hb] at f
                exact ⟨F5, e4, B5, σ3, u1, w6, hσ3, hl3, u2, f⟩
    · have e : i = ds.length := by omega
      subst e
      rw [List.drop_length] at f
      exact .inl ⟨st.stop H' F' x, fin x w hσ hl s f⟩
end
section
variable {X : Cx} {cv : Nat → Value} {W : WX}
theorem px_gen {c P : Addr} {nm : Str} {elt tg iter : Expr} {ifs : List Expr} {p pos gpos : Pos} {scope : Scope} {own : List (Str × Nat)} {it : SI} {g : GT} {t : SM Bool} {el : SE} {k : Nat} {stop : Bool} (hT : Tabs.T P)
    (hc : X.calm = true) (hr : Room (k + 1) X.A) (hnm : (stop = false ∧ nm = "all") ∨ (stop = true ∧ nm = "any")) (hgl : Gl X nm) (hm : X.mg nm = none) (TB : GxR.TabB X.base X.mg c P) (hcode : X.env.code = .ref c) (hN : X.N.Nodup) (ok : PG.GenOk X.N X.env.scope scope own) (hi : PI X tg iter (si X.K cv W it))
    (hg : ∀ (s : Shared) (H : Hp) (C : Addr) (code : Value) (A : Around) (fp : List Addr), Room k A → PG (PG.gCx X s H (PG.gEnv X scope C code) A fp) tg (gT X.K (kpv (own.map (·.2))) g))
    (ht : ∀ (s : Shared) (H : Hp) (C : Addr) (code : Value) (A : Around) (fp : List Addr), Room k A → PTs (PG.gCx X s H (PG.gEnv X scope C code) A fp) ifs (sm X.K cv WF rB t))
    (he : ∀ (s : Shared) (H : Hp) (C : Addr) (code : Value) (A : Around) (fp : List Addr), Room k A → PE (PG.gCx X s H (PG.gEnv X scope C code) A fp) elt (sm X.K cv WF (rD X.K) el))
    (hs : ∀ v, genFold iter X.env v = pure v) :
    PE X (.Call (.Name nm p) [.GeneratorExp elt [⟨tg, iter, ifs, 0⟩] scope gpos] [] pos) (sm X.K cv W (rD X.K) (sGen stop it g t el (own.map (·.2)))) :=
  (PG.pe_gen hc hr hnm hgl hm TB hcode hN ok hi hg ht he hs ok.co).imp fun σ H Q => sGen_read hT
end

/-! ## while -/
def whileN (c : SM Bool) (b : SS) : Nat → Env → RS
  | 0, _ => .bad
  | n + 1, e => match c e with
    | .ok x e1 => if x = true then (match b e1 with
      | .nx e2 => whileN c b n e2
      | .ct e2 => whileN c b n e2
      | .bk e2 => .nx e2
      | r => r) else .nx e1
    | .exc c e1 => .exc c e1
    | .bad => .bad
open Classical in
noncomputable def sWhile (c : SM Bool) (b : SS) : SS := fun e => if h : ∃ n, whileN c b n e ≠ .bad then whileN c b (Classical.choose h) e else .bad
theorem whileN_up {c : SM Bool} {b : SS} : ∀ (n k : Nat) (e : Env), whileN c b n e ≠ .bad → whileN c b (n + k) e = whileN c b n e
  | 0, k, e, h => absurd rfl h
  | n + 1, k, e, h => by
    rw [Nat.add_right_comm]
    simp only [whileN] at h ⊢
    cases q : c e with
    | bad => rfl
    | exc cc e1 => rfl
    | ok x e1 =>
      rw [q] at h
      simp only [] at h ⊢
      split
      · rename_i hx
        rw [if_pos hx] at h
        cases q2 : b e1 with
        | nx e2 => rw [q2] at h; exact whileN_up n k e2 h
        | ct e2 => rw [q2] at h; exact whileN_up n k e2 h
        | bk e2 => rfl
        | rt d e2 => rfl
        | exc cc e2 => rfl
        | bad => rfl
      · rfl
theorem sWhile_eq {c : SM Bool} {b : SS} {n : Nat} {e : Env} (h : whileN c b n e ≠ .bad) : sWhile c b e = whileN c b n e := by
  have hx : ∃ n, whileN c b n e ≠ .bad := ⟨n, h⟩
  unfold sWhile
  rw [dif_pos hx]
  have h2 := Classical.choose_spec hx
  have := whileN_up _ n e h2
  have h3 := whileN_up n (Classical.choose hx) e h
  rw [← this, Nat.add_comm, h3]
section
variable {X : Cx} {cv : Nat → Value} {W : WX} {kp : Nat → Bool}
theorem qs_while {c : Expr} {body : List Stmt} {m : SM Bool} {b : SS} {pos : Pos} (hp : PassesOwn (model X.prog X.w) X.A X.env X.xe) (hc : PT X c (sm X.K cv W rB m)) (hb : PSs X body (ss X.K cv W kp b)) : PS X (.While c body [] pos) (ss X.K cv W kp (sWhile m b)) :=
  (ps_while hp hc hb).imp fun De σ H ⟨F, env, B, w, f⟩ => by
    unfold sWhile at f
    split at f
    · rename_i hx
      refine ⟨fun n σ' H' => ∃ F' env' B', Wl X.K σ' H' F' env' B' ∧ FinS X.K cv W kp De σ' H' F' B' (whileN m b n env'), ⟨_, F, env, B, w, f⟩, ?_⟩
      rintro n σ' H' ⟨F', env', B', w', f'⟩
      cases n with
      | zero => exact False.elim f'
      | succ n =>
        have f2 : FinS X.K cv W kp De σ' H' F' B' ((m env').toS fun x e1 => if x = true then (match b e1 with
          | .nx e2 => whileN m b n e2
          | .ct e2 => whileN m b n e2
          | .bk e2 => .nx e2
          | r => r) else .nx e1) := by
          simp only [whileN] at f'
          cases q : m env' with
          | ok x e1 => rw [q] at f'; exact f'
          | exc c e1 => rw [q] at f'; exact f'
          | bad => rw [q] at f'; exact f'
        refine (sm.runS (P := rB) (m := m) ⟨F', env', B', w', f2⟩).mono fun v H1 ⟨F1, env1, x, A1, B1, w1, p1, d1, f3⟩ => ?_
        obtain ⟨rfl, rfl⟩ := p1
        cases v with
        | false => exact f3 σ' H1 F1 B1 Kp.refl Ext.refl w1 Sub.refl
        | true =>
          simp only [if_true] at f3 ⊢
          refine ⟨fun σ2 H2 => ∃ F2 env2 B2, Wl X.K σ2 H2 F2 env2 B2 ∧ FinS X.K cv W kp De σ2 H2 F2 B2 (whileN m b n env2), fun σ2 H2 q => ⟨n, Nat.lt_succ_self _, q⟩, F1, env1, B1, w1, ?_⟩
          cases q2 : b env1 with
          | nx e2 =>
            rw [q2] at f3
            exact fun σ4 H4 F4 B4 k4 x4 w4 s4 => ⟨F4, e2, B4, w4, FinS.step k4 x4 s4 f3⟩
          | ct e2 =>
            rw [q2] at f3
            exact fun σ4 H4 F4 B4 k4 x4 w4 s4 => ⟨F4, e2, B4, w4, FinS.step k4 x4 s4 f3⟩
          | bk e2 => rw [q2] at f3; exact f3
          | rt d e2 => rw [q2] at f3; exact f3
          | exc cc e2 => rw [q2] at f3; exact f3
          | bad => rw [q2] at f3; exact f3
    · exact False.elim f
end
end PV
set_option Elab.async false
set_option linter.all false
set_option maxRecDepth 100000
set_option maxHeartbeats 4000000
namespace PV
variable [Tabs]
open PySem PySem.Spec L2 GenW
/-! ## max(.. for .. in .. if ..) of integers -/
def gInts (g : GT) (c : SM Bool) (el : SE) (vs : List Nat) : List D → Env → R (List Int)
  | [], e => .ok [] e
  | d :: ds, e => match g d (wipeE e vs) with
    | some e1 => (match c e1 with
      | .ok b e2 => if b = true then (match el e2 with
        | .ok (.int v) e3 => (match gInts g c el vs ds e3 with
          | .ok ys e4 => .ok (v :: ys) e4
          | _ => .bad)
        | _ => .bad) else gInts g c el vs ds e2
      | _ => .bad)
    | none => .bad
def sGmax (it : SI) (g : GT) (c : SM Bool) (el : SE) (vs : List Nat) : SE := fun e => (it e).bind fun ds e1 => match gInts g c el vs ds e1 with
  | .ok (y :: ys) e2 => .ok (.int (maxI y ys)) (restE e1 e2 vs)
  | _ => .bad
def yvOf (l : List Int) (k : Nat) : Int := l.reverse.getD k 0
theorem yvOf_suf {d r : List Int} {v : Int} : yvOf (d ++ v :: r) r.length = v := by
  unfold yvOf
  simp [List.getD_eq_getElem?_getD]
theorem bst_max {l : List Int} : ∀ (r : List Int) (b : Int), (∃ d, l = d ++ r) → PG.bst (yvOf l) r.length b = maxI b r
  | [], b, _ => rfl
  | v :: r, b, ⟨d, h⟩ => by
    have e : yvOf l r.length = v := by rw [h]; exact yvOf_suf
    simp only [List.length_cons, PG.bst, maxI, e]
    have e2 : (if v > b then v else b) = max b v := by
      rw [Int.max_def]
      split <;> split <;> omega
    rw [e2]
    exact bst_max r _ ⟨d ++ [v], by simp [h]⟩
section
variable {K : PySem.W.Frag} {cv : Nat → Value} {W : WX}
theorem sGmax_read {P : Addr} (hT : Tabs.T P) {it : SI} {g : GT} {c : SM Bool} {el : SE} {vs : List Nat} {σ : L2.St} {H : Hp} {Q : VK} (h : sm K cv W (rD K) (sGmax it g c el vs) σ H Q) :
    PG.tGmax P (si K cv W it) (gT K (kpv vs) g) (sm K cv WF rB c) (sm K cv WF (rD K) el) vs σ H Q := by
  obtain ⟨F0, env0, B0, w0, f0⟩ := h
  refine ⟨F0, env0, B0, w0, ?_⟩
  simp only [sGmax] at f0
  cases e0 : it env0 with
  | bad => rw [e0] at f0; exact f0
  | exc c e' => rw [e0] at f0; exact f0
  | ok ds env1 =>
    rw [e0] at f0
    intro J H1 F1 B1 x1 w1 s1 st
    refine ⟨w1.tab P hT, fun H2 tb => ?_⟩
    have f0' : Fin K cv W (rD K) σ H F0 B0 Q (match gInts g c el vs ds env1 with
      | .ok (y :: ys) e2 => .ok (.int (maxI y ys)) (restE env1 e2 vs)
      | _ => .bad) := f0
    obtain ⟨y, ys, envE, eG⟩ : ∃ y ys envE, gInts g c el vs ds env1 = .ok (y :: ys) envE := by
      revert f0'
      cases gInts g c el vs ds env1 with
      | bad => exact fun f => False.elim f
      | exc c e' => exact fun f => False.elim f
      | ok l e' =>
        cases l with
        | nil => exact fun f => False.elim f
        | cons y ys => exact fun _ => ⟨_, _, _, rfl⟩
    rw [eG] at f0'
    have f1 : Fin K cv W (rD K) σ H1 F1 B1 Q (.ok (.int (maxI y ys)) (restE env1 envE vs)) := Fin.step x1 s1 f0'
    have xt : Ext B1 H1 F1 H2 F1 := Ext.tabbed (w1.tab P hT) tb
    have xt0 : Ext [] H1 F1 H2 F1 := Ext.tabbed (w1.tab P hT) tb
    have eB : PG.bst (yvOf (y :: ys)) ys.length (yvOf (y :: ys) ys.length) = maxI y ys := by
      rw [show yvOf (y :: ys) ys.length = y from yvOf_suf (d := [])]
      exact bst_max ys y ⟨[y], rfl⟩
    -- the end
    have fin : ∀ {H' : Hp} {F' : Addr → Prop} {B' : List Addr} {σ' : L2.St}, Ext B1 H1 F1 H' F' → Wl K σ' H' F' envE B' → (∀ j, j ∉ vs → σ'[j]? = σ[j]?) → σ'.length = σ.length → Sub B' B1 H1 → Q (.int (maxI y ys)) H' := by
      intro H' F' B' σ' x w hσ hl s
      obtain ⟨Br, r1, r2⟩ := EnvR.rest (e0 := env1) (H := H') (F := F') w1.er (fun v d q => Fz.ext x w1.dis.notF _ _ q) w.er hσ hl
      exact f1 (.int (maxI y ys)) H' F' [] Br x ⟨r1, Le.dis r2 w.dis, w.tr, w.tab⟩ (by simp [rD, Ow]) (Le.dis r2 w.dis) fun a ha => s a (r2.2 a ha)
    refine ⟨ys.length, yvOf (y :: ys), fun i m n H' => m = ds.length - i ∧ i ≤ ds.length ∧ ∃ rem, n = rem.length ∧ (∃ dn, y :: ys = dn ++ rem) ∧ ∃ F' env' B' σ', Ext B1 H1 F1 H' F' ∧ Wl K σ' H' F' env' B' ∧ (∀ j, j ∉ vs → σ'[j]? = σ[j]?) ∧ σ'.length = σ.length ∧ Sub B' B1 H1 ∧
      gInts g c el vs (ds.drop i) env' = .ok rem envE, ⟨ds.length, by simp, Nat.zero_le _, y :: ys, rfl, ⟨[], rfl⟩, F1, env1, B1, σ, xt, w1.ext xt0 (fun _ _ z => by cases z) (fun _ _ z => by cases z), fun _ _ => rfl, rfl, Sub.refl, by simpa using eG⟩, ?_⟩
    rintro i m n H' ⟨rfl, hi, rem, rfl, hrem, F', env', B', σ', x, w, hσ, hl, s, f⟩
    rw [eB]
    by_cases hlt : i < ds.length
    · refine .inr ⟨st.go i H' F' x hlt, fun n' H2 => ∃ rem, n' = rem.length ∧ (∃ dn, y :: ys = dn ++ rem) ∧ ∃ F' env' B' σ', Ext B1 H1 F1 H2 F' ∧ Wl K σ' H2 F' env' B' ∧ (∀ j, j ∉ vs → σ'[j]? = σ[j]?) ∧ σ'.length = σ.length ∧ Sub B' B1 H1 ∧
        gInts g c el vs (ds.drop (i + 1)) env' = .ok rem envE, fun n' H2 q => ⟨_, by omega, rfl, hlt, q⟩, fun v H2 yy => ?_⟩
      obtain ⟨d, hd, fz, x2⟩ := st.yld i H' F' v H2 x hlt yy
      have e1 : ds.drop i = d :: ds.drop (i + 1) := by
        rw [List.getElem?_eq_getElem hlt] at hd
        cases hd
        exact List.drop_eq_getElem_cons hlt
      rw [e1] at f
      have hw : L2.wipe σ' vs = L2.wipe σ vs := wipe_eq hl hσ
      have nil : ∀ {P : Prop} (c : Addr), c ∈ ([] : List Addr) → P := fun c z => by cases z
      have w2 : Wl K σ' H2 F' env' B' := w.ext x2 (fun _ _ z => nil _ z) fun _ _ z => nil _ z
      obtain ⟨Bw, w3, sw⟩ := w2.wipe vs
      rw [hw] at w3
      simp only [gInts] at f
      cases hg : g d (wipeE env' vs) with
      | none => rw [hg] at f; cases f
      | some e2 =>
        rw [hg] at f
        simp only [] at f
        refine ⟨F', wipeE env' vs, d, [], Bw, e2, w3, fz.ow, w3.dis, hg, fun σ3 H3 F3 B3 k3 x4 w4 s4 => ?_⟩
        refine ⟨kpv_wipe k3, ?_⟩
        have x4 : Ext Bw H2 F' H3 F3 := x4
        have s4 : Sub B3 Bw H2 := s4
        have way : ∀ {Hy : Hp} {Fy : Addr → Prop} {By : List Addr}, Ext Bw H2 F' Hy Fy → Sub By Bw H2 → Ext B1 H1 F1 Hy Fy ∧ Sub By B1 H1 := by
          intro Hy Fy By y1 y2
          have z1 : Ext B1 H1 F1 H2 F' := x.trans (x2.wk (B1 := B') fun c z => nil c z) s
          exact ⟨z1.trans y1 fun c hc => s c (sw.subset hc), Sub.trans (fun c hc => s c (sw.subset hc)) y2 z1.fr⟩
        have hσ3 : ∀ j, j ∉ vs → σ3[j]? = σ[j]? := fun j hj => by rw [k3.2 j (by simp [kpv, hj]), wipe_get hj]
        have hl3 : σ3.length = σ.length := by rw [k3.1, wipe_length]
        refine ⟨F3, e2, B3, w4, ?_⟩
        cases hc : c e2 with
        | bad => rw [hc] at f; cases f
        | exc cc e' => rw [hc] at f; cases f
        | ok b e3 =>
          rw [hc] at f
          simp only [] at f
          intro vb H4 F4 A4 B4 x5 w5 p5 d5 s5
          obtain ⟨rfl, rfl⟩ := p5
          have s5 : Sub B4 B3 H3 := s5
          have y4 : Ext Bw H2 F' H4 F4 := x4.trans x5 s4
          have t4 : Sub B4 Bw H2 := s4.trans s5 x4.fr
          cases vb with
          | false =>
            simp only [Bool.false_eq_true, if_false] at f ⊢
            obtain ⟨u1, u2⟩ := way y4 t4
            exact ⟨rem, rfl, hrem, F4, e3, B4, σ3, u1, w5, hσ3, hl3, u2, f⟩
          | true =>
            simp only [if_true] at f ⊢
            refine ⟨F4, e3, B4, w5, ?_⟩
            cases he : el e3 with
            | bad => rw [he] at f; cases f
            | exc cc e' => rw [he] at f; cases f
            | ok yd e4 =>
              rw [he] at f
              intro vy H5 F5 A5 B5 x6 w6 p6 d6 s6
              cases yd <;> try (cases f; done)
              rename_i bv
              simp only [] at f
              have p6' : Ow K H5 F5 vy (.int bv) A5 := p6
              simp only [Ow] at p6'
              obtain ⟨rfl, rfl⟩ := p6'
              have y5 : Ext Bw H2 F' H5 F5 := y4.trans x6 t4
              have t5 : Sub B5 Bw H2 := Sub.trans t4 s6 y4.fr
              obtain ⟨u1, u2⟩ := way y5 t5
              cases hr : gInts g c el vs (ds.drop (i + 1)) e4 with
              | bad => rw [hr] at f; cases f
              | exc cc e' => rw [hr] at f; cases f
              | ok r eE =>
                rw [hr] at f
                simp only [R.ok.injEq] at f
                obtain ⟨rfl, rfl⟩ := f
                obtain ⟨dn, hdn⟩ := hrem
                refine ⟨r.length, rfl, ?_, r, rfl, ⟨dn ++ [bv], by simp [hdn]⟩, F5, e4, B5, σ3, u1, w6, hσ3, hl3, u2, hr⟩
                rw [hdn, yvOf_suf]
    · have e : i = ds.length := by omega
      subst e
      rw [List.drop_length] at f
      simp only [gInts, R.ok.injEq] at f
      obtain ⟨rfl, rfl⟩ := f
      exact .inl ⟨st.stop H' F' x, rfl, fin x w hσ hl s⟩
end
section
variable {X : Cx} {cv : Nat → Value} {W : WX}
theorem px_gmax {c P : Addr} {elt tg iter : Expr} {ifs : List Expr} {p pos gpos : Pos} {scope : Scope} {own : List (Str × Nat)} {it : SI} {g : GT} {t : SM Bool} {el : SE} {k : Nat} (hT : Tabs.T P)
    (hc : X.calm = true) (hr : Room (k + 1) X.A) (hgl : Gl X "max") (hm : X.mg "max" = none) (TB : GxR.TabB X.base X.mg c P) (hcode : X.env.code = .ref c) (hN : X.N.Nodup) (ok : PG.GenOk X.N X.env.scope scope own) (hi : PI X tg iter (si X.K cv W it))
    (hg : ∀ (s : Shared) (H : Hp) (C : Addr) (code : Value) (A : Around) (fp : List Addr), Room k A → PG (PG.gCx X s H (PG.gEnv X scope C code) A fp) tg (gT X.K (kpv (own.map (·.2))) g))
    (ht : ∀ (s : Shared) (H : Hp) (C : Addr) (code : Value) (A : Around) (fp : List Addr), Room k A → PTs (PG.gCx X s H (PG.gEnv X scope C code) A fp) ifs (sm X.K cv WF rB t))
    (he : ∀ (s : Shared) (H : Hp) (C : Addr) (code : Value) (A : Around) (fp : List Addr), Room k A → PE (PG.gCx X s H (PG.gEnv X scope C code) A fp) elt (sm X.K cv WF (rD X.K) el))
    (hs : ∀ v, genFold iter X.env v = pure v) :
    PE X (.Call (.Name "max" p) [.GeneratorExp elt [⟨tg, iter, ifs, 0⟩] scope gpos] [] pos) (sm X.K cv W (rD X.K) (sGmax it g t el (own.map (·.2)))) :=
  (PG.pe_gmax hc hr hgl hm TB hcode hN ok hi hg ht he hs ok.co).imp fun σ H Q => sGmax_read hT
end
end PV
set_option Elab.async false
set_option linter.all false
set_option maxRecDepth 100000
set_option maxHeartbeats 4000000
namespace PV
open PySem PySem.Spec PyProof.Rows L2
variable [Tabs]

/-! ## for x in xs: .. where x is changed in place -/
def backJ (i j : Nat) (f : D → List D) (e : Env) (k : Env → RS) : RS := match e[j]? with
  | some (some d) => k ((e.set j none).set i (some (.lst true (f d))))
  | _ => .bad
def loopB (i j : Nat) (body : SS) : List D → List D → Env → RS
  | [], dn, e => .nx ((e.set j none).set i (some (.lst true dn)))
  | d :: ds, dn, e => if j < e.length then (match body (e.set j (some d)) with
    | .nx e2 => (match e2[j]? with
      | some (some d') => loopB i j body ds (dn ++ [d']) (e2.set j none)
      | _ => .bad)
    | .ct e2 => (match e2[j]? with
      | some (some d') => loopB i j body ds (dn ++ [d']) (e2.set j none)
      | _ => .bad)
    | .bk e2 => backJ i j (fun d' => dn ++ d' :: ds) e2 .nx
    | .rt r e2 => backJ i j (fun d' => dn ++ d' :: ds) e2 (.rt r)
    | .exc c e2 => backJ i j (fun d' => dn ++ d' :: ds) e2 (.exc c)
    | .bad => .bad) else .bad
def sForB (i j : Nat) (body : SS) : SS := fun e => match e[i]? with
  | some (some (.lst true l)) => loopB i j body l [] (e.set i none)
  | _ => .bad
section
variable {K : PySem.W.Frag} {cv : Nat → Value} {W : WX} {kp : Nat → Bool}
theorem EnvR.forget {H : Hp} {F : Addr → Prop} {σ : L2.St} {e : Env} {B : List Addr} (h : EnvR K H F σ e B) (j : Nat) : ∃ B', EnvR K H F σ (e.set j none) B' ∧ B'.Sublist B := by
  obtain ⟨B', h1, h2⟩ := EnvR.drop e σ B j (σ[j]?.join) h
  have e1 : σ.set j (σ[j]?.join) = σ := by
    by_cases hj : j < σ.length
    · rw [List.getElem?_eq_getElem hj]
      exact List.set_getElem_self hj
    · exact List.set_eq_of_length_le (by omega)
  rw [e1] at h1
  exact ⟨B', h1, h2⟩
theorem Wl.forget {H : Hp} {F : Addr → Prop} {σ : L2.St} {e : Env} {B : List Addr} (w : Wl K σ H F e B) (j : Nat) : ∃ B', Wl K σ H F (e.set j none) B' ∧ Le B' B := by
  obtain ⟨B', h1, h2⟩ := EnvR.forget w.er j
  exact ⟨B', ⟨h1, w.dis.sub h2, w.tr, w.tab⟩, .of h2⟩
theorem Wl.fill {H : Hp} {F : Addr → Prop} {σ : L2.St} {e : Env} {B AL : List Addr} {i : Nat} {a : Addr} {xs : List V} {L : List D} (w : Wl K σ H F e B) (hs : σ[i]? = some (some (.ref a))) (ha : H a = some (.lst xs)) (o : OwL K H F xs L AL) (d : Dis F (a :: AL ++ B)) :
    ∃ B', Wl K σ H F (e.set i (some (.lst true L))) B' ∧ Le B' (a :: AL ++ B) := by
  obtain ⟨B', h1, h2⟩ := EnvR.reset (B1 := a :: AL) (o := some (.lst true L)) hs w.er (fun d' z => by
    cases z
    simp only [Ow]
    exact ⟨a, xs, AL, rfl, ha, rfl, o⟩)
  exact ⟨B', ⟨h1, Le.dis h2 d, w.tr, w.tab⟩, h2⟩
/-- what is held apart stays -/
theorem hold_step {H H' : Hp} {F F' : Addr → Prop} {Bx By Ah : List Addr} (th : ∀ c ∈ Ah, H c ≠ none) (d : Dis F (Ah ++ Bx)) (x : Ext Bx H F H' F') (s : Sub By Bx H) (dy : Dis F' By) : Dis F' (Ah ++ By) := by
  refine Dis.app ⟨d.left.1, fun c hc z => ?_⟩ dy fun c hc z => ?_
  · rcases x.new c z with q | q | q
    · exact d.left.2 c hc q
    · exact d.apart c hc q
    · exact th c hc q
  · rcases s c z with q | q
    · exact d.apart c hc q
    · exact th c hc q
/-- at the turn t -/
structure BW (K : PySem.W.Frag) (kp : Nat → Bool) (i : Nat) (a : Addr) (xs : List V) (l : List D) (σ : L2.St) (H : Hp) (F : Addr → Prop) (B : List Addr) (t : Nat) (σ' : L2.St) (H' : Hp) (F' : Addr → Prop) (env' : Env) (B' : List Addr) (dn : List D) (Ad Ar : List Addr) : Prop where
  x : Ext B H F H' F'
  k : Kp kp σ σ'
  s : σ'[i]? = some (some (.ref a))
  w : Wl K σ' H' F' env' B'
  ha : H' a = some (.lst xs)
  od : OwL K H' F' (xs.take t) dn Ad
  or : OwL K H' F' (xs.drop t) (l.drop t) Ar
  d : Dis F' (a :: (Ad ++ Ar) ++ B')
  sb : Sub (a :: (Ad ++ Ar) ++ B') B H
theorem sForB_read {i j : Nat} {body : SS} {De : Ends} {σ : L2.St} {H : Hp} (hij : i ≠ j) (hkj : kp j = false) (h : ss K cv W kp (sForB i j body) De σ H) :
    tFor (iList K (tVar i)) (gName j) (ss K cv W (fun q => kp q || q == i || q == j) body) De σ H := by
  obtain ⟨F, env, B, w, f⟩ := h
  simp only [sForB] at f
  split at f
  · rename_i l q
    obtain ⟨a, xs, As, B0, h1, h2, h3, h4, h5⟩ := w.focus q
    have mB : ∀ c, c ∈ a :: As ++ B0 → c ∈ B := fun c hc => h4.mem_iff.mpr hc
    refine ⟨.ref a, h1, a, rfl, ⟨xs, .inl (.inl h2)⟩, ?_⟩
    refine ⟨fun t m σ' H' => m = l.length - t ∧ t ≤ l.length ∧ ∃ F' env' B' dn Ad Ar, BW K kp i a xs l σ H F B t σ' H' F' env' B' dn Ad Ar ∧ FinS K cv W kp De σ H F B (loopB i j body (l.drop t) dn env'),
      ⟨l.length, by simp, Nat.zero_le _, F, env.set i none, B0, [], [], As, ⟨Ext.refl, Kp.refl, h1, h5, h2, by simp [OwL], by simpa using h3, by simpa using w.dis.perm h4, fun c hc => .inl (mB c (by simpa using hc))⟩, by simpa using f⟩, ?_⟩
    rintro t m σ' H' ⟨rfl, hi, F', env', B', dn, Ad, Ar, b, f'⟩
    have hxl : xs.length = l.length := h3.length
    by_cases hlt : t < l.length
    · have hx : t < xs.length := by omega
      refine .inr ⟨⟨xs, xs[t], .inl (.inl b.ha), List.getElem?_eq_getElem hx⟩, fun σ2 H2 => ∃ F' env' B' dn Ad Ar, BW K kp i a xs l σ H F B (t + 1) σ2 H2 F' env' B' dn Ad Ar ∧ FinS K cv W kp De σ H F B (loopB i j body (l.drop (t + 1)) dn env'),
        fun σ2 H2 q => ⟨_, by omega, rfl, hlt, q⟩, fun v H2 y => ?_⟩
      obtain ⟨rfl, y⟩ := y
      have ev := y xs (.inl (.inl b.ha))
      rw [List.getElem?_eq_getElem hx] at ev
      cases ev
      have e1 : l.drop t = l[t] :: l.drop (t + 1) := List.drop_eq_getElem_cons hlt
      have e2_1 : xs.drop t = xs[t] :: xs.drop (t + 1) := List.drop_eq_getElem_cons hx
      have or := b.or
      rw [e1, e2_1] at or
      simp only [OwL] at or
      obtain ⟨x0, xs0, Ax, Ar', ee, rfl, ox, or⟩ := or
      cases ee
      rw [e1] at f'
      simp only [loopB] at f'
      split at f'
      · rename_i hj
        have dB : Dis F' ((a :: (Ad ++ Ar')) ++ (Ax ++ B')) := b.d.perm (by
          simp only [List.cons_append, List.append_assoc]
          refine List.Perm.cons _ (List.Perm.append_left _ ?_)
          rw [← List.append_assoc, ← List.append_assoc]
          exact List.perm_append_comm.append_right B')
        obtain ⟨B2, w2, m2⟩ := b.w.asg (i := j) ox dB.right hj
        show ss K cv W _ body _ _ H2
        refine ⟨F', env'.set j (some l[t]), B2, w2, ?_⟩
        have th : ∀ c ∈ a :: (Ad ++ Ar'), H2 c ≠ none := fun c hc => by
          rcases List.mem_cons.mp hc with rfl | hc
          · rw [b.ha]; simp
          · rcases List.mem_append.mp hc with hc | hc
            · obtain ⟨zs, e⟩ := OwL.there _ _ _ b.od c hc
              rw [e]; simp
            · obtain ⟨zs, e⟩ := OwL.there _ _ _ or c hc
              rw [e]; simp
        have dB2 : Dis F' ((a :: (Ad ++ Ar')) ++ B2) := Dis.app dB.left w2.dis fun c hc z => dB.apart c hc (m2 c z)
        have sB2 : Sub B2 B H := fun c hc => b.sb c (by
          have := m2 c hc
          simp at this ⊢
          rcases this with z | z <;> simp [z])
        have sH : Sub (a :: (Ad ++ Ar')) B H := fun c hc => b.sb c (by
          simp at hc ⊢
          rcases hc with z | z | z <;> simp [z])
        have hσ2 : (σ'.set j (some xs[t]))[i]? = some (some (.ref a)) := by
          rw [List.getElem?_set_ne (fun z => hij z.symm)]; exact b.s
        have hj2 : j < σ'.length := by rw [EnvR.len _ _ _ b.w.er]; exact hj
        -- behind the body
        have after : ∀ {σ3 : L2.St} {H3 : Hp} {F3 : Addr → Prop} {e2 : Env} {B3 Bv : List Addr} {d' : D}, Kp (fun q => kp q || q == i || q == j) (σ'.set j (some xs[t])) σ3 → Ext B2 H2 F' H3 F3 → Wl K σ3 H3 F3 e2 B3 → Dis F3 (Bv ++ B3) → Sub (Bv ++ B3) B2 H2 → e2[j]? = some (some d') →
            ∃ A' B4, Kp kp σ σ3 ∧ σ3[i]? = some (some (.ref a)) ∧ Ext B H F H3 F3 ∧ H3 a = some (.lst xs) ∧ OwL K H3 F3 (xs.take t) dn Ad ∧ OwL K H3 F3 (xs.drop (t + 1)) (l.drop (t + 1)) Ar' ∧ Ow K H3 F3 xs[t] d' A' ∧ Wl K σ3 H3 F3 (e2.set j none) B4 ∧ Dis F3 (a :: (Ad ++ (A' ++ Ar')) ++ (Bv ++ B4)) ∧ Sub (a :: (Ad ++ (A' ++ Ar')) ++ (Bv ++ B4)) B H := by
          intro σ3 H3 F3 e2 B3 Bv d' k3 x3 w3 d3 s3 q3
          obtain ⟨v', A', B4, g1, g2, g3, g4⟩ := EnvR.take _ _ _ j _ w3.er q3
          have ek := k3.2 j (by simp)
          rw [List.getElem?_set_self hj2, g1] at ek
          cases ek
          have hd := hold_step th dB2 x3 s3 d3
          have off : ∀ c ∈ a :: (Ad ++ Ar'), c ∉ B2 := dB2.apart
          refine ⟨A', B4, ?_, ?_, b.x.trans x3 sB2, x3.lst a xs b.ha (off a List.mem_cons_self), OwL.ext x3 dB2.right.notF _ _ _ (fun c hc => off c (by simp [hc])) b.od, OwL.ext x3 dB2.right.notF _ _ _ (fun c hc => off c (by simp [hc])) or, g2, ⟨g4, (w3.dis.perm g3).right, w3.tr, w3.tab⟩, ?_, ?_⟩
          · refine b.k.trans ((Kp.set hkj).trans ⟨k3.1, fun q hq => k3.2 q (by simp [hq])⟩)
          · rw [k3.2 i (by simp)]; exact hσ2
          · refine hd.perm ?_
            simp only [List.cons_append, List.append_assoc]
            refine List.Perm.cons _ (List.Perm.append_left _ ?_)
            refine (List.Perm.append_left _ (List.Perm.append_left _ g3)).trans ?_
            rw [← List.append_assoc Ar' Bv, ← List.append_assoc (Ar' ++ Bv) A', ← List.append_assoc A' Ar', ← List.append_assoc (A' ++ Ar') Bv]
            refine List.Perm.append_right _ ?_
            rw [List.append_assoc A']
            exact List.perm_append_comm
          · intro c hc
            have : c ∈ a :: (Ad ++ Ar') ∨ c ∈ Bv ++ B3 := by
              simp only [List.mem_append, List.mem_cons, g3.mem_iff] at hc ⊢
              rcases hc with (z | z | z | z) | z | z <;> simp [z]
            rcases this with z | z
            · exact sH c z
            · exact Sub.trans sB2 s3 b.x.fr c z
        -- the list is whole again
        have whole : ∀ {σ3 : L2.St} {H3 : Hp} {F3 : Addr → Prop} {e2 : Env} {B3 Bv : List Addr} {d' : D}, Kp (fun q => kp q || q == i || q == j) (σ'.set j (some xs[t])) σ3 → Ext B2 H2 F' H3 F3 → Wl K σ3 H3 F3 e2 B3 → Dis F3 (Bv ++ B3) → Sub (Bv ++ B3) B2 H2 → e2[j]? = some (some d') →
            ∃ B5, Kp kp σ σ3 ∧ Ext B H F H3 F3 ∧ Wl K σ3 H3 F3 ((e2.set j none).set i (some (.lst true (dn ++ d' :: l.drop (t + 1))))) B5 ∧ Dis F3 (Bv ++ B5) ∧ Sub (Bv ++ B5) B H := by
          intro σ3 H3 F3 e2 B3 Bv d' k3 x3 w3 d3 s3 q3
          obtain ⟨A', B4, r1, r2, r3, r4, r5, r6, r7, r8, r9, r10⟩ := after k3 x3 w3 d3 s3 q3
          have ol : OwL K H3 F3 xs (dn ++ d' :: l.drop (t + 1)) (Ad ++ (A' ++ Ar')) := by
            have := r5.append (show OwL K H3 F3 (xs.drop t) (d' :: l.drop (t + 1)) (A' ++ Ar') by rw [e2_1]; simp only [OwL]; exact ⟨_, _, A', Ar', rfl, rfl, r7, r6⟩)
            rw [List.take_append_drop] at this
            exact this
          have dP : Dis F3 (Bv ++ (a :: (Ad ++ (A' ++ Ar')) ++ B4)) := r9.perm ((fun L => by
            rw [← List.append_assoc, ← List.append_assoc]
            exact List.perm_append_comm.append_right B4 : ∀ L : List Addr, (L ++ (Bv ++ B4)).Perm (Bv ++ (L ++ B4))) _)
          obtain ⟨B5, u1, u2⟩ := r8.fill r2 r4 ol dP.right
          refine ⟨B5, r1, r3, u1, Le.dis u2.app dP, fun c hc => r10 c ?_⟩
          have : c ∈ Bv ++ (a :: (Ad ++ (A' ++ Ar')) ++ B4) := u2.app.2 c hc
          simp only [List.mem_append] at this ⊢
          rcases this with z | z | z <;> simp [z]
        have again : ∀ {σ3 : L2.St} {H3 : Hp} {F3 : Addr → Prop} {e2 : Env} {B3 : List Addr}, Kp (fun q => kp q || q == i || q == j) (σ'.set j (some xs[t])) σ3 → Ext B2 H2 F' H3 F3 → Wl K σ3 H3 F3 e2 B3 → Sub B3 B2 H2 → FinS K cv W kp De σ H F B (match e2[j]? with
            | some (some d') => loopB i j body (l.drop (t + 1)) (dn ++ [d']) (e2.set j none)
            | _ => .bad) → ∃ F' env' B' dn Ad Ar, BW K kp i a xs l σ H F B (t + 1) σ3 H3 F' env' B' dn Ad Ar ∧ FinS K cv W kp De σ H F B (loopB i j body (l.drop (t + 1)) dn env') := by
          intro σ3 H3 F3 e2 B3 k3 x3 w3 s3 f3
          split at f3
          · rename_i d' q3
            obtain ⟨A', B4, r1, r2, r3, r4, r5, r6, r7, r8, r9, r10⟩ := after (Bv := []) k3 x3 w3 w3.dis s3 q3
            refine ⟨F3, e2.set j none, B4, dn ++ [d'], Ad ++ A', Ar', ⟨r3, r1, r2, r8, r4, ?_, r6, by simpa using r9, by simpa using r10⟩, f3⟩
            rw [List.take_succ_eq_append_getElem hx]
            exact r5.append (by simp only [OwL]; exact ⟨_, [], A', [], rfl, by simp, r7, rfl, rfl⟩)
          · exact False.elim f3
        cases hb : body (env'.set j (some l[t])) with
        | nx e2 =>
          rw [hb] at f'
          exact fun σ3 H3 F3 B3 k3 x3 w3 s3 => again k3 x3 w3 s3 f'
        | ct e2 =>
          rw [hb] at f'
          exact fun σ3 H3 F3 B3 k3 x3 w3 s3 => again k3 x3 w3 s3 f'
        | bk e2 =>
          rw [hb] at f'
          simp only [backJ] at f'
          split at f'
          · rename_i d' q3
            intro σ3 H3 F3 B3 k3 x3 w3 s3
            obtain ⟨B5, r1, r2, r3, r4, r5⟩ := whole (Bv := []) k3 x3 w3 w3.dis s3 q3
            exact f' σ3 H3 F3 B5 r1 r2 r3 r5
          · exact False.elim f'
        | rt d2 e2 =>
          rw [hb] at f'
          simp only [backJ] at f'
          split at f'
          · rename_i d' q3
            intro v σ3 H3 F3 Av B3 k3 x3 w3 ov dv s3
            obtain ⟨B5, r1, r2, r3, r4, r5⟩ := whole (Bv := Av) k3 x3 w3 dv s3 q3
            exact f' v σ3 H3 F3 Av B5 r1 r2 r3 ov r4 r5
          · exact False.elim f'
        | exc cc e2 =>
          rw [hb] at f'
          simp only [backJ] at f'
          split at f'
          · rename_i d' q3
            intro σ3 H3 F3 B3 k3 x3 w3 s3
            obtain ⟨B5, r1, r2, r3, r4, r5⟩ := whole (Bv := []) k3 x3 w3 w3.dis s3 q3
            exact f' σ3 H3 F3 B5 r1 r2 r3 r5
          · exact False.elim f'
        | bad => rw [hb] at f'; exact False.elim f'
      · exact False.elim f'
    · have e : t = l.length := by omega
      subst e
      rw [List.drop_length] at f'
      simp only [loopB] at f'
      refine .inl ⟨⟨xs, .inl (.inl b.ha), by omega⟩, ?_⟩
      have od := b.od
      rw [List.take_of_length_le (by omega)] at od
      have or := b.or
      rw [List.drop_length] at or
      simp only [OwL] at or
      obtain ⟨_, rfl⟩ := or
      obtain ⟨B1, w1, l1⟩ := b.w.forget j
      have d1 : Dis F' (a :: Ad ++ B') := by simpa using b.d
      obtain ⟨B2, w2, l2⟩ := w1.fill b.s b.ha od (Le.dis l1.app d1)
      exact f' σ' H' F' B2 b.k b.x w2 fun c hc => b.sb c (by
        have := (l2.trans l1.app).2 c hc
        simpa using this)
  · exact False.elim f
end
section
variable {X : Cx} {cv : Nat → Value} {W : WX} {kp : Nat → Bool}
theorem qs_forB {i j : Nat} {x y : Str} {b : List Stmt} {body : SS} {px py pos : Pos} (hij : i ≠ j) (hkj : kp j = false) (hp : PassesOwn (model X.prog X.w) X.A X.env X.xe) (hc : X.calm = true) (hN : X.N.Nodup) (hi : X.N[i]? = some x) (hj : X.N[j]? = some y) (hv : Vis X.env.scope x) (hx : L2.Loc X.env.scope y)
    (hd : (x == ("__debug__" : Str)) = false) (hcd : (x == ("__classdict__" : Str)) = false) (hf : X.fn y = true ∨ X.env.scope.names.lookup y = some .local) (hb : PSs X b (ss X.K cv W (fun q => kp q || q == i || q == j) body)) (hs : ∀ v, foldedSetIterable (.Name x px) X.env v = pure v) :
    PS X (.For (.Name y py) (.Name x px) b [] pos) (ss X.K cv W kp (sForB i j body)) :=
  (ps_for hp hc (pi_list (pe_var hi hv hd hcd)) (pg_name hN hj hx hf) hb hs).imp fun De σ H => sForB_read hij hkj
end
end PV
set_option Elab.async false
set_option linter.all false
set_option maxRecDepth 100000
set_option maxHeartbeats 4000000
/-! the end: all defs' tables are empty at the start -/
namespace PG
open PySem PySem.Spec PyProof.Rows L2 LamX
/-- the tables of the defs of the text, at the law's call -/
def AllTab (q : Program) (K : PySem.W.Frag) (mg : Str → Option Value) (h : Heap) : Prop := ∀ dL ∈ recsOf q, ∀ f, mg dL.name = some (.ref f) → OwnTab K f h
theorem walk_ofAll {l : PySem.W.OpenLaw} {n k : Nat} {q : Program} {loose : List Str} {XP : (Str → Option Value) → Heap → Prop} {YP : World → Heap → Prop} {d : DefRec} {K : Params → PySem.W.Frag} {CX : World → CXT} {x : Str}
    (hn : l.most = some n) (hn2 : n ≤ sizeLine) (hdf : d.params.defaults = []) (hr : Room k callerA) (hY : ∀ (w : World) (h : Heap), YP w h → (K w.params).In h)
    (F : ∀ (w : World) (mg : Str → Option Value) (fa : Addr) (h : Heap), YP w h → (K w.params).In h → h.Ns mainGlobals mg → mg d.name = some (.ref fa) → AllTab q (K w.params) mg h → LawAtS l w (K w.params) (CX w) k n x mg fa h)
    (hCX : ∀ (w : World) (H : Hp) (s : Shared) (e : Value) (s' : Shared), CX w [] H s (fun _ _ _ => False) e s' → False) :
    PySem.W.WalkO q loose XP YP l.row.toRowW d [] (fun f vs => PySem.call f vs) := by
  refine Att.attach_callB hn hdf fun w s₀ s₁ mg mb fa o pm cd doc a vs ns G Y ho hd hcd hmg hobj hints hlen hbits hg => ?_
  have KX := hY w _ Y
  have own : AllTab q (K w.params) mg s₁.heap := fun dL hm f hf c P o1 fd1 e dd vs1 sl k1 k2 k3 k4 k5 => by
    obtain ⟨a', o', fd', c', P', h1, h2, h3, h4, h5, h6⟩ := G.T.tab dL hm
    rw [hf] at h1
    cases h1
    have g1 := KX _ _ k1
    rw [g1] at h2
    cases h2
    rw [k2] at h3
    cases h3
    rw [k3] at h4
    cases h4
    obtain ⟨⟨oc, vc, e1, _, e3, e4⟩, hP⟩ := h6
    have g2 := KX _ _ k4
    rw [g2] at e1
    cases e1
    cases e3
    rw [k5] at e4
    cases e4
    exact hP
  obtain ⟨fd, cs, sp, hT, nT, C, hb, hsp, hF⟩ := F w mg fa _ Y KX G.T.g hmg own
  exact law_callTs KX G.T.g G.T.b G.T.builtins G.T.nolimit hg hT nT C G.T.bmain hobj hints (Nat.le_trans hlen hn2) hr hF hb (fun H hH hS => hsp H a ns hlen hbits hH hS) fun H e s' => hCX w H s₁ e s'
theorem tab_at {q : Program} {K : PySem.W.Frag} {mg : Str → Option Value} {h : Heap} {x : Str} {c P : Addr} (X : K.In h) (G : h.Ns mainGlobals mg) (T : AllTab q K mg h) (hr : ((recsOf q).any fun e => e.name == x) = true) (ht : PySem.W.tabIn K x = some (c, P)) : h.get? P = some { cls := .none, data := .fields #[] } := by
  obtain ⟨dL, hm, hn1⟩ := List.any_eq_true.mp hr
  have hn2 : dL.name = x := beq_iff_eq.mp hn1
  have T' := T dL hm
  rw [hn2] at T'
  unfold PySem.W.tabIn at ht
  split at ht
  · rename_i f hf
    have e1 := PySem.W.mg_of X G hf
    split at ht
    · rename_i hfo
      split at ht
      · rename_i c₂ hc
        split at ht
        · rename_i hco
          split at ht
          · rename_i P₂ hv
            cases ht
            exact T' f e1 _ _ _ _ _ _ _ _ hfo rfl hc hco hv
          · cases ht
        · cases ht
      · cases ht
    · cases ht
  · cases ht
end PG
set_option Elab.async false
set_option linter.all false
set_option maxRecDepth 100000
set_option maxHeartbeats 4000000
namespace PV
open PySem PySem.Spec PyProof.Rows L2
variable [Tabs]

theorem takesN_none {X : Cx} : L2N.Takes X (fun _ _ _ _ => False) := fun u s' ⟨a, B, sI, pins, σ, H, cls, d, e, I, nb, up, sky, na, os, ag, w⟩ => False.elim w
/-! ## a def by its facts; what a body may use -/
section
variable {P : Program} {w : World} {K : PySem.W.Frag} {mg : Str → Option Value} {base : Heap} {cv : Nat → Value}
theorem fn_okD {x qual : Str} {params : Arguments} {body : List Stmt} {scope : Scope} {f : Addr} {fd : FuncData} {N ps : List Str} {k : Nat} {kp : Nat → Bool} {m : SS} (F : FunD K x qual params body scope [] [] f fd) (S : FnScope N ps scope)
    (hbody : ∀ (cdv : Value) (A : Around) (outer : List PySem.Env) (s : Shared) (H : Hp) (E : XK), fd.code = cdv → Room k (A.deeper (envOfC qual scope s.heap.objs.size f cdv)) →
      L2N.Takes (cxOf (L2N.CX P w) P w K mg base N qual scope f cdv A outer s H E) (fun cls d _ H => E cls d H) →
      PassesOwn (model P w) (A.deeper (envOfC qual scope s.heap.objs.size f cdv)) (envOfC qual scope s.heap.objs.size f cdv) (cxOf (L2N.CX P w) P w K mg base N qual scope f cdv A outer s H E).xe →
      PSs (cxOf (L2N.CX P w) P w K mg base N qual scope f cdv A outer s H E) body (ss K cv (fun cls d _ H => E cls d H) kp m)) :
    FnOk P w K mg base (L2N.CX P w) (k + 1) f fd ps (spF K cv ps.length (mkF ps.length N.length kp m)) := by
  obtain ⟨oc, od, dV, kV, doc, pm, an, cdv, ct, osl, rfl, lk, hcd, _, _⟩ := F.ex
  refine fn_of lk hcd S (fun vs H Q E h => h.1) fun A outer s H vs Q E hr hsp => ?_
  have tk := L2N.takes_of (X := cxOf (L2N.CX P w) P w K mg base N qual scope f cdv A outer s H E) (E := E) rfl rfl rfl rfl
  have pa := passes_of (X := cxOf (L2N.CX P w) P w K mg base N qual scope f cdv A outer s H E) rfl
  refine ⟨_, hbody cdv A outer s H E rfl hr tk pa, ?_⟩
  obtain ⟨hl, F0, ds, B, o, dd, tr, tab, fin⟩ := hsp
  have hl2 : ds.length = ps.length := by rw [← o.length, hl]
  simp only [mkF, hl2, if_true] at fin
  refine ⟨F0, ds.map some ++ List.replicate (N.length - ps.length) none, B, ⟨?_, dd, tr, tab⟩, ?_⟩
  · unfold L2.start
    rw [hl]
    exact envR_start vs ds B _ o
  · cases q : m (ds.map some ++ List.replicate (N.length - ps.length) none) with
    | nx e' =>
      rw [q] at fin
      intro σ' H' F' B' k x w' s'
      obtain ⟨B2, h1, h2⟩ := outs_ok (kp := kp) vs 0 σ' e' B' w'.er (kept_start k)
      rw [hl] at h1
      exact fin .non H' F' [] B2 x h1 (by simp [Ow]) ⟨w'.dis.1.sublist h2, fun a h => w'.dis.2 a (h2.subset h)⟩ w'.tr fun a h => s' a (h2.subset h)
    | rt d e' =>
      rw [q] at fin
      intro v σ' H' F' A2 B' k x w' o2 d2 s'
      obtain ⟨B2, h1, h2⟩ := outs_ok (kp := kp) vs 0 σ' e' B' w'.er (kept_start k)
      rw [hl] at h1
      exact fin v H' F' A2 B2 x h1 o2 (d2.sub (h2.append_left A2)) w'.tr fun a h => s' a ((h2.append_left A2).subset h)
    | exc c e' =>
      rw [q] at fin
      intro σ' H' F' B' k x w' s'
      obtain ⟨B2, h1, h2⟩ := outs_ok (kp := kp) vs 0 σ' e' B' w'.er (kept_start k)
      rw [hl] at h1
      exact fin H' F' B2 x h1 (w'.dis.sub h2) w'.tr fun a h => s' a (h2.subset h)
    | bk e' => rw [q] at fin; exact False.elim fin
    | ct e' => rw [q] at fin; exact False.elim fin
    | bad => rw [q] at fin; exact False.elim fin
/-- a def that may be called: its name, its parameters, its meaning -/
def FnAt (P : Program) (w : World) (K : PySem.W.Frag) (mg : Str → Option Value) (base : Heap) (cv : Nat → Value) (j : Nat) (x : Str) (ps : List Str) (g : FnD) : Prop :=
  ∃ f fd, FnOk P w K mg base (L2N.CX P w) (2 * j) f fd ps (spF K cv ps.length g) ∧ mg x = some (.ref f) ∧ PySem.W.keepIn K (.ref f) = true ∧ Binds K fd ps [] ∧ ∃ (oc : Value) (od : Option Addr) (osl : Array (Option Value)), K.lookup f = some ⟨oc, od, .func fd, osl⟩
theorem _root_.L2.FunD.lk {x qual : Str} {params : Arguments} {body : List Stmt} {scope : Scope} {f : Addr} {fd : FuncData} (F : FunD K x qual params body scope [] [] f fd) : ∃ (oc : Value) (od : Option Addr) (osl : Array (Option Value)), K.lookup f = some ⟨oc, od, .func fd, osl⟩ := by
  obtain ⟨oc, od, dV, kV, doc, pm, an, cdv, ct, osl, rfl, lk, _⟩ := F.ex
  exact ⟨_, _, _, lk⟩
theorem fn_bad {ps : List Str} {f : Addr} {fd : FuncData} (k : Nat) : FnOk P w K mg base (L2N.CX P w) k f fd ps (spF K cv ps.length fun _ => .bad) :=
  ⟨fun vs H Q E h => h.1, fun A outer s H args us vs Q E hr he hb hv h => by
    obtain ⟨_, _, _, _, _, _, _, _, z⟩ := h
    exact False.elim z⟩
end
theorem OkX.of {X : Cx} {k : Nat} (hc : X.calm = true) (hr : Room k X.A) : OkX X := ⟨hc, by have := hr.un; omega⟩
/-- where code stands -/
structure At (X : Cx) (W : WX) (j : Nat) : Prop where
  calm : X.calm = true
  tk : L2N.Takes X W
  hr : Room (2 * j) X.A
theorem At.ox {X : Cx} {W : WX} {j : Nat} (a : At X W j) : OkX X := .of a.calm a.hr
section
variable {X : Cx} {cv : Nat → Value} {W : WX} {kp : Nat → Bool} {j : Nat}
theorem At.blk {s : Shared} {H : Hp} {scope : Scope} {cenv : PySem.Env} {fp : List Addr} (a : At X W j) : At (X.blk s H scope cenv fp) WF j := ⟨a.calm, takesN_none, a.hr⟩
theorem At.gen {s : Shared} {H : Hp} {genv : PySem.Env} {A : Around} {fp : List Addr} (hc : X.calm = true) (hr : Room (2 * j) A) : At (PG.gCx X s H genv A fp) WF j := ⟨hc, takesN_none, hr⟩

/-! ### the rules with their small conditions answered -/
theorem eV (i : Nat) {x : Str} {pos : Pos} (hN : X.N[i]? = some x := by rfl) (hv : Vis X.env.scope x := by first | exact .inl rfl | exact .inr (.inl rfl) | exact .inr (.inr rfl)) (hd : (x == ("__debug__" : Str)) = false := by decide +kernel) (hcd : (x == ("__classdict__" : Str)) = false := by decide +kernel) :
    PE X (.Name x pos) (sm X.K cv W (rD X.K) (sVar i)) := px_var hN hv hd hcd
theorem oV (i : Nat) {x : Str} {pos : Pos} (hN : X.N[i]? = some x := by rfl) (hv : Vis X.env.scope x := by first | exact .inl rfl | exact .inr (.inl rfl) | exact .inr (.inr rfl)) (hd : (x == ("__debug__" : Str)) = false := by decide +kernel) (hcd : (x == ("__classdict__" : Str)) = false := by decide +kernel) :
    PE X (.Name x pos) (sm X.K cv W (rA X.K) (oVar i)) := po_var hN hv hd hcd
theorem qV (i : Nat) {x : Str} {pos : Pos} (hN : X.N[i]? = some x := by rfl) (hv : Vis X.env.scope x := by first | exact .inl rfl | exact .inr (.inl rfl) | exact .inr (.inr rfl)) (hd : (x == ("__debug__" : Str)) = false := by decide +kernel) (hcd : (x == ("__classdict__" : Str)) = false := by decide +kernel) :
    PE X (.Name x pos) (qr X.K (qVar i)) := pq_var hN hv hd hcd
theorem eC {x : Str} {i : Int} {pos : Pos} (h : ∃ t, X.mg x = some (.int i t)) (hg : Gl X x := by rfl) (hd : (x == ("__debug__" : Str)) = false := by decide +kernel) : PE X (.Name x pos) (sm X.K cv W (rD X.K) (sC (.int i))) :=
  let ⟨t, hm⟩ := h
  px_glob (v := .int i) hg hm ⟨t, rfl⟩ (fun _ _ => fz_int) hd
theorem eqC {x : Str} {i : Int} {pos : Pos} (h : ∃ t, X.mg x = some (.int i t)) (hg : Gl X x := by rfl) (hd : (x == ("__debug__" : Str)) = false := by decide +kernel) : PE X (.Name x pos) (qr X.K (qC (.int i))) :=
  let ⟨t, hm⟩ := h
  pq_glob (v := .int i) hg hm ⟨t, rfl⟩ (fun _ _ => fz_int) hd
section
variable {a b : Expr} {o1 o2 : SO} {q1 q2 : QE} {pos : Pos}
theorem bAdd (ha : PE X a (sm X.K cv W (rA X.K) o1)) (hb : PE X b (sm X.K cv W (rA X.K) o2)) : PE X (.BinOp a .Add b pos) (sm X.K cv W (rD X.K) (sTwo o1 o2 fAdd)) := px_bin op_addA rule_add ha hb
theorem bSub (ha : PE X a (sm X.K cv W (rA X.K) o1)) (hb : PE X b (sm X.K cv W (rA X.K) o2)) : PE X (.BinOp a .Sub b pos) (sm X.K cv W (rD X.K) (sTwo o1 o2 fSub)) := px_bin op_sub rule_sub ha hb
theorem bMul (ha : PE X a (sm X.K cv W (rA X.K) o1)) (hb : PE X b (sm X.K cv W (rA X.K) o2)) : PE X (.BinOp a .Mult b pos) (sm X.K cv W (rD X.K) (sTwo o1 o2 fMul)) := px_bin op_mulA rule_mul ha hb
theorem bFdiv (ha : PE X a (sm X.K cv W (rA X.K) o1)) (hb : PE X b (sm X.K cv W (rA X.K) o2)) : PE X (.BinOp a .FloorDiv b pos) (sm X.K cv W (rD X.K) (sTwo o1 o2 fFdiv)) := px_bin op_fdivX rule_fdiv ha hb
theorem bMod (ha : PE X a (sm X.K cv W (rA X.K) o1)) (hb : PE X b (sm X.K cv W (rA X.K) o2)) : PE X (.BinOp a .Mod b pos) (sm X.K cv W (rD X.K) (sTwo o1 o2 fMod)) := px_bin op_modN rule_mod ha hb
theorem bPow (ha : PE X a (sm X.K cv W (rA X.K) o1)) (hb : PE X b (sm X.K cv W (rA X.K) o2)) : PE X (.BinOp a .Pow b pos) (sm X.K cv W (rD X.K) (sTwo o1 o2 fPow)) := px_bin op_powX rule_pow ha hb
theorem bIx (ha : PE X a (sm X.K cv W (rA X.K) o1)) (hb : PE X b (sm X.K cv W (rA X.K) o2)) (hs : PlainIx b := by intro _ _; rfl) : PE X (.Subscript a b pos) (sm X.K cv W (rD X.K) (sTwo o1 o2 fIx)) := px_ix ix_seq rule_ix hs ha hb
theorem qIx (ha : PE X a (qr X.K q1)) (hb : PE X b (qr X.K q2)) (hs : PlainIx b := by intro _ _; rfl) : PE X (.Subscript a b pos) (qr X.K (qTwo q1 q2 fIxQ)) := pq_ix ix_seq ruleq_ix hs ha hb
theorem qAdd (ha : PE X a (qr X.K q1)) (hb : PE X b (qr X.K q2)) : PE X (.BinOp a .Add b pos) (qr X.K (qTwo q1 q2 (fI (fun _ _ => true) fun i j => .int (i + j)))) := pq_bin op_add (ruleq_I0 fun _ _ _ _ => fz_int) ha hb
theorem qSub (ha : PE X a (qr X.K q1)) (hb : PE X b (qr X.K q2)) : PE X (.BinOp a .Sub b pos) (qr X.K (qTwo q1 q2 fSub)) := pq_bin op_sub (ruleq_I0 fun _ _ _ _ => fz_int) ha hb
/-! comparisons: as values, as tests -/
theorem cLt (c : At X W j) (ha : PE X a (sm X.K cv W (rA X.K) o1)) (hb : PE X b (sm X.K cv W (rA X.K) o2)) : PE X (.Compare a [.Lt] [b] pos) (sm X.K cv W (rD X.K) (sTwo o1 o2 fLt)) := px_cmp (op_ltA c.ox) rule_lt (nomark b) ha hb
theorem cLe (c : At X W j) (ha : PE X a (sm X.K cv W (rA X.K) o1)) (hb : PE X b (sm X.K cv W (rA X.K) o2)) : PE X (.Compare a [.LtE] [b] pos) (sm X.K cv W (rD X.K) (sTwo o1 o2 fLe)) := px_cmp (op_leA c.ox) rule_le (nomark b) ha hb
theorem cGt (ha : PE X a (sm X.K cv W (rA X.K) o1)) (hb : PE X b (sm X.K cv W (rA X.K) o2)) : PE X (.Compare a [.Gt] [b] pos) (sm X.K cv W (rD X.K) (sTwo o1 o2 fGt)) := px_cmp op_gt rule_gt (nomark b) ha hb
theorem cGe (ha : PE X a (sm X.K cv W (rA X.K) o1)) (hb : PE X b (sm X.K cv W (rA X.K) o2)) : PE X (.Compare a [.GtE] [b] pos) (sm X.K cv W (rD X.K) (sTwo o1 o2 fGe)) := px_cmp op_ge rule_ge (nomark b) ha hb
theorem cEq (c : At X W j) (ha : PE X a (sm X.K cv W (rA X.K) o1)) (hb : PE X b (sm X.K cv W (rA X.K) o2)) : PE X (.Compare a [.Eq] [b] pos) (sm X.K cv W (rD X.K) (sTwo o1 o2 fEq)) := px_cmp (op_eqA c.ox) rule_eq (nomark b) ha hb
theorem cNe (c : At X W j) (ha : PE X a (sm X.K cv W (rA X.K) o1)) (hb : PE X b (sm X.K cv W (rA X.K) o2)) : PE X (.Compare a [.NotEq] [b] pos) (sm X.K cv W (rD X.K) (sTwo o1 o2 fNe)) := px_cmp (op_neA c.ox) rule_ne (nomark b) ha hb
theorem cIs (ha : PE X a (sm X.K cv W (rA X.K) o1)) (hb : PE X b (sm X.K cv W (rA X.K) o2)) : PE X (.Compare a [.Is] [b] pos) (sm X.K cv W (rD X.K) (sTwo o1 o2 fIs)) := px_cmp op_isA rule_is (nomark b) ha hb
theorem cIsnt (ha : PE X a (sm X.K cv W (rA X.K) o1)) (hb : PE X b (sm X.K cv W (rA X.K) o2)) : PE X (.Compare a [.IsNot] [b] pos) (sm X.K cv W (rD X.K) (sTwo o1 o2 fIsnt)) := px_cmp op_isntA rule_isnt (nomark b) ha hb
theorem cIn (c : At X W j) (ha : PE X a (sm X.K cv W (rA X.K) o1)) (hb : PE X b (sm X.K cv W (rA X.K) o2)) (hm : behindInMarks .In b = false := by rfl) : PE X (.Compare a [.In] [b] pos) (sm X.K cv W (rD X.K) (sTwo o1 o2 fIn)) := px_cmp (op_inA c.ox) rule_in hm ha hb
theorem cNin (c : At X W j) (ha : PE X a (sm X.K cv W (rA X.K) o1)) (hb : PE X b (sm X.K cv W (rA X.K) o2)) (hm : behindInMarks .NotIn b = false := by rfl) : PE X (.Compare a [.NotIn] [b] pos) (sm X.K cv W (rD X.K) (sTwo o1 o2 fNin)) := px_cmp (op_ninA c.ox) rule_nin hm ha hb
end
/-- a value that is a bool, as a test -/
def sBT (d : SE) : SM Bool := sB d
theorem tVal {e : Expr} {d : SE} (h : PE X e (sm X.K cv W (rD X.K) d)) (he : ∀ whole, isTrue e X.env whole = (do let v ← whole; standAt e.pos; holding [v] (truthy v)) := by intro _; rfl) : PT X e (sm X.K cv W rB (sB d)) :=
  (pt_val h he).imp fun σ H Q => sB_read
theorem tLt {a b : Expr} {o1 o2 : SO} {pos : Pos} (c : At X W j) (ha : PE X a (sm X.K cv W (rA X.K) o1)) (hb : PE X b (sm X.K cv W (rA X.K) o2)) : PT X (.Compare a [.Lt] [b] pos) (sm X.K cv W rB (sB (sTwo o1 o2 fLt))) := pt_cmpS (op_ltA c.ox) rule_lt (nomark b) ha hb
theorem tLe {a b : Expr} {o1 o2 : SO} {pos : Pos} (c : At X W j) (ha : PE X a (sm X.K cv W (rA X.K) o1)) (hb : PE X b (sm X.K cv W (rA X.K) o2)) : PT X (.Compare a [.LtE] [b] pos) (sm X.K cv W rB (sB (sTwo o1 o2 fLe))) := pt_cmpS (op_leA c.ox) rule_le (nomark b) ha hb
theorem tGt {a b : Expr} {o1 o2 : SO} {pos : Pos} (ha : PE X a (sm X.K cv W (rA X.K) o1)) (hb : PE X b (sm X.K cv W (rA X.K) o2)) : PT X (.Compare a [.Gt] [b] pos) (sm X.K cv W rB (sB (sTwo o1 o2 fGt))) := pt_cmpS op_gt rule_gt (nomark b) ha hb
theorem tGe {a b : Expr} {o1 o2 : SO} {pos : Pos} (ha : PE X a (sm X.K cv W (rA X.K) o1)) (hb : PE X b (sm X.K cv W (rA X.K) o2)) : PT X (.Compare a [.GtE] [b] pos) (sm X.K cv W rB (sB (sTwo o1 o2 fGe))) := pt_cmpS op_ge rule_ge (nomark b) ha hb
theorem tEq {a b : Expr} {o1 o2 : SO} {pos : Pos} (c : At X W j) (ha : PE X a (sm X.K cv W (rA X.K) o1)) (hb : PE X b (sm X.K cv W (rA X.K) o2)) : PT X (.Compare a [.Eq] [b] pos) (sm X.K cv W rB (sB (sTwo o1 o2 fEq))) := pt_cmpS (op_eqA c.ox) rule_eq (nomark b) ha hb
theorem tNe {a b : Expr} {o1 o2 : SO} {pos : Pos} (c : At X W j) (ha : PE X a (sm X.K cv W (rA X.K) o1)) (hb : PE X b (sm X.K cv W (rA X.K) o2)) : PT X (.Compare a [.NotEq] [b] pos) (sm X.K cv W rB (sB (sTwo o1 o2 fNe))) := pt_cmpS (op_neA c.ox) rule_ne (nomark b) ha hb
theorem tIs {a b : Expr} {o1 o2 : SO} {pos : Pos} (ha : PE X a (sm X.K cv W (rA X.K) o1)) (hb : PE X b (sm X.K cv W (rA X.K) o2)) : PT X (.Compare a [.Is] [b] pos) (sm X.K cv W rB (sB (sTwo o1 o2 fIs))) := pt_cmpS op_isA rule_is (nomark b) ha hb
theorem tIsnt {a b : Expr} {o1 o2 : SO} {pos : Pos} (ha : PE X a (sm X.K cv W (rA X.K) o1)) (hb : PE X b (sm X.K cv W (rA X.K) o2)) : PT X (.Compare a [.IsNot] [b] pos) (sm X.K cv W rB (sB (sTwo o1 o2 fIsnt))) := pt_cmpS op_isntA rule_isnt (nomark b) ha hb
theorem tIn {a b : Expr} {o1 o2 : SO} {pos : Pos} (c : At X W j) (ha : PE X a (sm X.K cv W (rA X.K) o1)) (hb : PE X b (sm X.K cv W (rA X.K) o2)) (hm : behindInMarks .In b = false := by rfl) : PT X (.Compare a [.In] [b] pos) (sm X.K cv W rB (sB (sTwo o1 o2 fIn))) := pt_cmpS (op_inA c.ox) rule_in hm ha hb
theorem tNin {a b : Expr} {o1 o2 : SO} {pos : Pos} (c : At X W j) (ha : PE X a (sm X.K cv W (rA X.K) o1)) (hb : PE X b (sm X.K cv W (rA X.K) o2)) (hm : behindInMarks .NotIn b = false := by rfl) : PT X (.Compare a [.NotIn] [b] pos) (sm X.K cv W rB (sB (sTwo o1 o2 fNin))) := pt_cmpS (op_ninA c.ox) rule_nin hm ha hb
/-! a <= b <= c, of ints -/
def sCh (o1 o2 o3 : SO) (g h : Int → Int → Bool) : SE := fun e => (o1 e).bind fun a e1 => (o2 e1).bind fun b e2 => match rsv e2 a, rsv e2 b with
  | some (.int x), some (.int y) => if g x y = true then (o3 e2).bind fun c e3 => (match rsv e3 c with
    | some (.int z) => .ok (.bl (h y z)) e3
    | _ => .bad) else .ok (.bl false) e2
  | _, _ => .bad
theorem px_ch {op op' : CmpOp} {g h : Int → Int → Bool} {a b c : Expr} {o1 o2 o3 : SO} {pos : Pos} (ho : OpR X (compareOp op) (rI0 fun i j => .bl (g i j))) (ho' : OpR X (compareOp op') (rI0 fun i j => .bl (h i j)))
    (ha : PE X a (sm X.K cv W (rA X.K) o1)) (hb : PE X b (sm X.K cv W (rA X.K) o2)) (hc : PE X c (sm X.K cv W (rA X.K) o3)) (hm : lastMarks [op, op'] [b, c] = false) :
    PE X (.Compare a [op, op'] [b, c] pos) (sm X.K cv W (rD X.K) (sCh o1 o2 o3 g h)) :=
  (pe_chain ho ho' ha hb hc hm).imp fun σ H Q hh => by
    refine (sm.run0 (P := rA X.K) (m := o1) hh).mono fun v H1 ⟨F2, env2, a, A2, B2, w2, p2, d2, f2⟩ => ?_
    refine (sm.run (P := rA X.K) (st_A.h σ v a) w2 p2 d2 f2).mono fun y H4 ⟨F5, env5, b, A5, B5, w5, pa, pb, d5, f5⟩ => ?_
    split at f5
    · rename_i x y' q1 q2
      have d6 : Dis F5 ((A2 ++ A5) ++ B5) := by rw [List.append_assoc]; exact d5
      have t : ∀ c ∈ A2 ++ A5, H4 c ≠ none := fun c hc => (List.mem_append.mp hc).elim (st_A.there pa c) (st_A.there pb c)
      have w6 := w5.freeze d6 t
      have ex := (rsv_ok w6 (fun c h => .inl h) (fun c h => .inr (List.mem_append_left _ h)) pa q1).int
      have ey := (rsv_ok w6 (fun c h => .inl h) (fun c h => .inr (List.mem_append_right _ h)) pb q2).int
      refine ⟨x, y', ex, ey, g x y', rfl, ?_⟩
      have f6 : Fin X.K cv W (rD X.K) σ H4 (fun c => F5 c ∨ c ∈ A2 ++ A5) B5 Q _ := Fin.step (Ext.freeze (fun a h => by rw [← List.append_assoc]; exact List.mem_append_left _ h) t) (fun c hc => .inl (by rw [← List.append_assoc]; exact List.mem_append_right _ hc)) f5
      split at f6
      · rename_i hg
        rw [if_pos hg]
        refine (sm.run0 (P := rA X.K) (m := o3) ⟨_, _, _, w6, f6⟩).mono fun u H7 ⟨F8, env8, c, A8, B8, w8, p8, d8, f8⟩ => ?_
        split at f8
        · rename_i z q3
          have t8 : ∀ c ∈ A8, H7 c ≠ none := st_A.there p8
          have ez := (rsv_ok (w8.freeze d8 t8) (fun c h => .inl h) (fun c h => .inr h) p8 q3).int
          exact ⟨y', z, ey, ez, fin_val w8 d8 t8 f8 fz_bl⟩
        · exact False.elim f8
      · rename_i hg
        rw [if_neg hg]
        exact fin_bl' w6 f6
    · exact False.elim f5
theorem cLeLe {a b c : Expr} {o1 o2 o3 : SO} {pos : Pos} (ha : PE X a (sm X.K cv W (rA X.K) o1)) (hb : PE X b (sm X.K cv W (rA X.K) o2)) (hc : PE X c (sm X.K cv W (rA X.K) o3)) (hm : lastMarks [.LtE, .LtE] [b, c] = false := by with_unfolding_all rfl) :
    PE X (.Compare a [.LtE, .LtE] [b, c] pos) (sm X.K cv W (rD X.K) (sCh o1 o2 o3 (fun i j => decide (i ≤ j)) (fun i j => decide (i ≤ j)))) := px_ch op_le op_le ha hb hc hm
theorem cLeLt {a b c : Expr} {o1 o2 o3 : SO} {pos : Pos} (ha : PE X a (sm X.K cv W (rA X.K) o1)) (hb : PE X b (sm X.K cv W (rA X.K) o2)) (hc : PE X c (sm X.K cv W (rA X.K) o3)) (hm : lastMarks [.LtE, .Lt] [b, c] = false := by with_unfolding_all rfl) :
    PE X (.Compare a [.LtE, .Lt] [b, c] pos) (sm X.K cv W (rD X.K) (sCh o1 o2 o3 (fun i j => decide (i ≤ j)) (fun i j => decide (i < j)))) := px_ch op_le op_lt ha hb hc hm
theorem cLtLt {a b c : Expr} {o1 o2 o3 : SO} {pos : Pos} (ha : PE X a (sm X.K cv W (rA X.K) o1)) (hb : PE X b (sm X.K cv W (rA X.K) o2)) (hc : PE X c (sm X.K cv W (rA X.K) o3)) (hm : lastMarks [.Lt, .Lt] [b, c] = false := by with_unfolding_all rfl) :
    PE X (.Compare a [.Lt, .Lt] [b, c] pos) (sm X.K cv W (rD X.K) (sCh o1 o2 o3 (fun i j => decide (i < j)) (fun i j => decide (i < j)))) := px_ch op_lt op_lt ha hb hc hm
theorem cLtLe {a b c : Expr} {o1 o2 o3 : SO} {pos : Pos} (ha : PE X a (sm X.K cv W (rA X.K) o1)) (hb : PE X b (sm X.K cv W (rA X.K) o2)) (hc : PE X c (sm X.K cv W (rA X.K) o3)) (hm : lastMarks [.Lt, .LtE] [b, c] = false := by with_unfolding_all rfl) :
    PE X (.Compare a [.Lt, .LtE] [b, c] pos) (sm X.K cv W (rD X.K) (sCh o1 o2 o3 (fun i j => decide (i < j)) (fun i j => decide (i ≤ j)))) := px_ch op_lt op_le ha hb hc hm
/-- a chain as a test -/
theorem tCh {op op' : CmpOp} {g h : Int → Int → Bool} {a b c : Expr} {o1 o2 o3 : SO} {pos : Pos} (ho : OpR X (compareOp op) (rI0 fun i j => .bl (g i j))) (ho' : OpR X (compareOp op') (rI0 fun i j => .bl (h i j)))
    (ha : PE X a (sm X.K cv W (rA X.K) o1)) (hb : PE X b (sm X.K cv W (rA X.K) o2)) (hc : PE X c (sm X.K cv W (rA X.K) o3)) (hm : lastMarks [op, op'] [b, c] = false := by with_unfolding_all rfl) :
    PT X (.Compare a [op, op'] [b, c] pos) (sm X.K cv W rB (sB (sCh o1 o2 o3 g h))) :=
  (pt_chain ho ho' ha hb hc hm).imp fun σ H Q hh => by
    have hh := sB_read hh
    refine (sm.run0 (P := rA X.K) (m := o1) hh).mono fun v H1 ⟨F2, env2, a, A2, B2, w2, p2, d2, f2⟩ => ?_
    refine (sm.run (P := rA X.K) (st_A.h σ v a) w2 p2 d2 f2).mono fun y H4 ⟨F5, env5, b, A5, B5, w5, pa, pb, d5, f5⟩ => ?_
    split at f5
    · rename_i x y' q1 q2
      have d6 : Dis F5 ((A2 ++ A5) ++ B5) := by rw [List.append_assoc]; exact d5
      have t : ∀ c ∈ A2 ++ A5, H4 c ≠ none := fun c hc => (List.mem_append.mp hc).elim (st_A.there pa c) (st_A.there pb c)
      have w6 := w5.freeze d6 t
      have ex := (rsv_ok w6 (fun c h => .inl h) (fun c h => .inr (List.mem_append_left _ h)) pa q1).int
      have ey := (rsv_ok w6 (fun c h => .inl h) (fun c h => .inr (List.mem_append_right _ h)) pb q2).int
      refine ⟨x, y', ex, ey, g x y', rfl, ?_⟩
      have f6 : Fin X.K cv W (rD X.K) σ H4 (fun c => F5 c ∨ c ∈ A2 ++ A5) B5 _ _ := Fin.step (Ext.freeze (fun a h => by rw [← List.append_assoc]; exact List.mem_append_left _ h) t) (fun c hc => .inl (by rw [← List.append_assoc]; exact List.mem_append_right _ hc)) f5
      split at f6
      · rename_i hg
        rw [if_pos hg]
        refine (sm.run0 (P := rA X.K) (m := o3) ⟨_, _, _, w6, f6⟩).mono fun u H7 ⟨F8, env8, c, A8, B8, w8, p8, d8, f8⟩ => ?_
        split at f8
        · rename_i z q3
          have t8 : ∀ c ∈ A8, H7 c ≠ none := st_A.there p8
          have ez := (rsv_ok (w8.freeze d8 t8) (fun c h => .inl h) (fun c h => .inr h) p8 q3).int
          exact ⟨y', z, ey, ez, fin_val w8 d8 t8 f8 fz_bl⟩
        · exact False.elim f8
      · rename_i hg
        rw [if_neg hg]
        exact fin_bl' w6 f6
    · exact False.elim f5
/-! calls -/
theorem uC {x : Str} {ps : List Str} {g : FnD} {e : Expr} {es : List Expr} {os : SA} {p pos : Pos} (c : At X W j) (F : FnAt X.prog X.w X.K X.mg X.base cv j x ps g) (ha : PA X (e :: es) (sm X.K cv W (rL X.K) os)) (hg : Gl X x := by rfl) (hdb : (x == ("__debug__" : Str)) = false := by decide +kernel) (hs : (e :: es).all notStar = true := by rfl) :
    PE X (.Call (.Name x p) (e :: es) [] pos) (sm X.K cv W (rD X.K) (sCall ps.length g os)) :=
  let ⟨_, _, h1, h2, h3, h4, _⟩ := F
  px_call h1 c.tk c.hr hg h2 h3 h4 hdb hs ha
theorem aN : PA X [] (sm X.K cv W (rL X.K) sNil) := pa_nil'
theorem aC {e : Expr} {es : List Expr} {o : SO} {os : SA} (ha : PE X e (sm X.K cv W (rA X.K) o)) (hr : PA X es (sm X.K cv W (rL X.K) os)) (hs : notStar e = true := by rfl) : PA X (e :: es) (sm X.K cv W (rL X.K) (sCons o os)) := pa_cons' hs ha hr
theorem qaC {e : Expr} {es : List Expr} {o : QE} {os : QL} (ha : PE X e (qr X.K o)) (hr : PA X es (qrL X.K os)) (hs : notStar e = true := by rfl) : PA X (e :: es) (qrL X.K (qCons o os)) := paq_cons hs ha hr
section
variable {x : Str} {e : Expr} {es : List Expr} {os : SA} {qs : QL} {p pos : Pos}
theorem kLen (hm : X.mg "len" = none) (ha : PA X (e :: es) (sm X.K cv W (rL X.K) os)) (hg : Gl X "len" := by rfl) (hs : (e :: es).all notStar = true := by rfl) : PE X (.Call (.Name "len" p) (e :: es) [] pos) (sm X.K cv W (rD X.K) (sApp os fLen)) := px_blt call_len rule_len hg hm boot_len (by decide +kernel) (by decide +kernel) hs ha
theorem kqLen (hm : X.mg "len" = none) (ha : PA X (e :: es) (qrL X.K qs)) (hg : Gl X "len" := by rfl) (hs : (e :: es).all notStar = true := by rfl) : PE X (.Call (.Name "len" p) (e :: es) [] pos) (qr X.K (qApp qs fLen)) := pq_blt call_len ruleq_len hg hm boot_len (by decide +kernel) (by decide +kernel) hs ha
theorem kAbs (hm : X.mg "abs" = none) (ha : PA X (e :: es) (sm X.K cv W (rL X.K) os)) (hg : Gl X "abs" := by rfl) (hs : (e :: es).all notStar = true := by rfl) : PE X (.Call (.Name "abs" p) (e :: es) [] pos) (sm X.K cv W (rD X.K) (sApp os (fI1 fun i => .int (if i < 0 then -i else i)))) := px_blt call_abs rule_abs hg hm (by decide +kernel) (by decide +kernel) (by decide +kernel) hs ha
theorem kInt (hm : X.mg "int" = none) (ha : PA X (e :: es) (sm X.K cv W (rL X.K) os)) (hg : Gl X "int" := by rfl) (hs : (e :: es).all notStar = true := by rfl) : PE X (.Call (.Name "int" p) (e :: es) [] pos) (sm X.K cv W (rD X.K) (sApp os fInt)) := px_bty call_int1 rule_int hg hm (by decide +kernel) (by decide +kernel) (by decide +kernel) hs ha
theorem kStr (hm : X.mg "str" = none) (ha : PA X (e :: es) (sm X.K cv W (rL X.K) os)) (hg : Gl X "str" := by rfl) (hs : (e :: es).all notStar = true := by rfl) : PE X (.Call (.Name "str" p) (e :: es) [] pos) (sm X.K cv W (rD X.K) (sApp os fStr)) := px_bty cr_strA rule_strA hg hm (by decide +kernel) (by decide +kernel) (by decide +kernel) hs ha
theorem kTuple (hm : X.mg "tuple" = none) (ha : PA X (e :: es) (sm X.K cv W (rL X.K) os)) (hg : Gl X "tuple" := by rfl) (hs : (e :: es).all notStar = true := by rfl) : PE X (.Call (.Name "tuple" p) (e :: es) [] pos) (sm X.K cv W (rD X.K) (sApp os fTup)) := px_bty call_tuple_of rule_tup hg hm (by decide +kernel) (by decide +kernel) (by decide +kernel) hs ha
theorem kList (hm : X.mg "list" = none) (ha : PA X (e :: es) (sm X.K cv W (rL X.K) os)) (hg : Gl X "list" := by rfl) (hs : (e :: es).all notStar = true := by rfl) : PE X (.Call (.Name "list" p) (e :: es) [] pos) (sm X.K cv W (rD X.K) (sApp os fLst)) := px_bty call_list_of rule_lst hg hm (by decide +kernel) (by decide +kernel) (by decide +kernel) hs ha
theorem kSum (c : At X W j) (hm : X.mg "sum" = none) (ha : PA X (e :: es) (sm X.K cv W (rL X.K) os)) (hg : Gl X "sum" := by rfl) (hs : (e :: es).all notStar = true := by rfl) : PE X (.Call (.Name "sum" p) (e :: es) [] pos) (sm X.K cv W (rD X.K) (sApp os fSumA)) := px_blt (cr_sumA c.ox) rule_sumA hg hm (by decide +kernel) (by decide +kernel) (by decide +kernel) hs ha
theorem kMax (c : At X W j) (hm : X.mg "max" = none) (ha : PA X (e :: es) (sm X.K cv W (rL X.K) os)) (hg : Gl X "max" := by rfl) (hs : (e :: es).all notStar = true := by rfl) : PE X (.Call (.Name "max" p) (e :: es) [] pos) (sm X.K cv W (rD X.K) (sApp os fMaxA)) := px_blt (cr_maxA c.ox) rule_maxA hg hm (by decide +kernel) (by decide +kernel) (by decide +kernel) hs ha
theorem kMin (c : At X W j) (hm : X.mg "min" = none) (ha : PA X (e :: es) (sm X.K cv W (rL X.K) os)) (hg : Gl X "min" := by rfl) (hs : (e :: es).all notStar = true := by rfl) : PE X (.Call (.Name "min" p) (e :: es) [] pos) (sm X.K cv W (rD X.K) (sApp os fMinA)) := px_blt (cr_minA c.ox) rule_minA hg hm (by decide +kernel) (by decide +kernel) (by decide +kernel) hs ha
end
theorem kIsi (T : String) {y : Str} {e : Expr} {o : SO} {p p2 pos : Pos} (hm : X.mg "isinstance" = none) (hm2 : X.mg y = none) (he : PE X e (sm X.K cv W (rA X.K) o)) (hv2 : bootBuiltins y = some (.type T) := by decide +kernel) (hT : okTy T = true := by rfl) (hg : Gl X "isinstance" := by rfl) (hg2 : Gl X y := by rfl) (hn2 : y ≠ "__name__" := by decide +kernel) (hdb2 : (y == ("__debug__" : Str)) = false := by decide +kernel) (hs : notStar e = true := by rfl) :
    PE X (.Call (.Name "isinstance" p) [e, .Name y p2] [] pos) (sm X.K cv W (rD X.K) (sIsi o T)) := px_isi hT hg hm (by decide +kernel) (by decide +kernel) (by decide +kernel) hg2 hm2 hv2 hn2 hdb2 hs he
theorem kLstRev {e : Expr} {o : SO} {p p2 pos pos2 : Pos} (c : At X W j) (hm : X.mg "list" = none) (hm2 : X.mg "reversed" = none) (he : PE X e (sm X.K cv W (rA X.K) o)) (hg : Gl X "list" := by rfl) (hg2 : Gl X "reversed" := by rfl) (hs : notStar e = true := by rfl) :
    PE X (.Call (.Name "list" p) [.Call (.Name "reversed" p2) [e] [] pos2] [] pos) (sm X.K cv W (rD X.K) (sOne o fLRev)) := px_lstRev c.calm hg hm hg2 hm2 hs he
theorem kPop (i : Nat) {x : Str} {p apos cpos : Pos} (hN : X.N[i]? = some x := by rfl) (hv : Vis X.env.scope x := by first | exact .inl rfl | exact .inr (.inl rfl) | exact .inr (.inr rfl)) (hd : (x == ("__debug__" : Str)) = false := by decide +kernel) (hcd : (x == ("__classdict__" : Str)) = false := by decide +kernel)
    (hbase : attributeBase (.Name x p) "pop" X.env (eval (.Name x p) X.env) = eval (.Name x p) X.env := by rfl) (hline : (apos.endLine == cpos.line) = true := by rfl) :
    PE X (.Call (.Attribute (.Name x p) "pop" apos) [] [] cpos) (sm X.K cv W (rD X.K) (sPop i)) := px_pop hN hv hd hcd hbase hline
theorem kApp (i : Nat) {x : Str} {e : Expr} {s : SE} {p apos cpos : Pos} (he : PE X e (sm X.K cv W (rD X.K) s)) (hN : X.N[i]? = some x := by rfl) (hv : Vis X.env.scope x := by first | exact .inl rfl | exact .inr (.inl rfl) | exact .inr (.inr rfl)) (hd : (x == ("__debug__" : Str)) = false := by decide +kernel) (hcd : (x == ("__classdict__" : Str)) = false := by decide +kernel) (hs : notStar e = true := by rfl)
    (hbase : attributeBase (.Name x p) "append" X.env (eval (.Name x p) X.env) = eval (.Name x p) X.env := by rfl)
    (hfew : ((backTo cpos (starEach [e] X.env)).all (fun x => !x.1) && (backToKw cpos (keywordEach [] X.env)).all (fun x => x.1.isSome)
      && decide ([e].length + ([] : List Keyword).length + (if ([] : List Keyword).isEmpty then 0 else 1) < 30)) = true := by rfl) (hline : (apos.endLine == cpos.line) = true := by rfl) :
    PE X (.Call (.Attribute (.Name x p) "append" apos) [e] [] cpos) (sm X.K cv W (rD X.K) (sApnd i s)) := px_append hN hv hd hcd he hs hbase hfew hline
/-! statements -/
theorem zSet (i : Nat) {x : Str} {e : Expr} {s : SE} {pos' pos : Pos} (nd : X.N.Nodup) (he : PE X e (sm X.K cv W (rD X.K) s)) (hk : kp i = false := by rfl) (hi : X.N[i]? = some x := by rfl) (hx : L2.Loc X.env.scope x := by first | exact .inl rfl | exact .inr rfl) (hs : swapsWith e (some (.Name x pos')) pos.line X.env = pure false := by rfl) (hf : X.fn x = true ∨ X.env.scope.names.lookup x = some .local := by first | exact .inl rfl | exact .inr rfl) :
    PS X (.Assign [.Name x pos'] e pos) (ss X.K cv W kp (sSet i s)) := qs_set hk nd hi hx he hs hf
theorem gN (i : Nat) {x : Str} {pos : Pos} (nd : X.N.Nodup) (hk : kp i = false := by rfl) (hi : X.N[i]? = some x := by rfl) (hx : L2.Loc X.env.scope x := by first | exact .inl rfl | exact .inr rfl) (hf : X.fn x = true ∨ X.env.scope.names.lookup x = some .local := by first | exact .inl rfl | exact .inr rfl) : PG X (.Name x pos) (gT X.K kp (tgName i)) := qg_name hk nd hi hx hf
theorem gTu (n : Nat) {es : List Expr} {k : Nat} {gs : GTs} {pos : Pos} (hc : X.calm = true) (h : PGs X es (gTs X.K kp gs)) (hn : (assignEach es X.env).length = n := by rfl) (hst : (assignEach es X.env).findIdx? (·.1) = none := by rfl) : PG X (.Tuple es k pos) (gT X.K kp (tgTup n gs)) := qg_tup hc h hn hst
theorem gC {e : Expr} {es : List Expr} {g : GT} {gs : GTs} (h1 : PG X e (gT X.K kp g)) (h2 : PGs X es (gTs X.K kp gs)) (hs : (assignEach (e :: es) X.env).map (·.2) = assign e X.env :: (assignEach es X.env).map (·.2) := by rfl) : PGs X (e :: es) (gTs X.K kp (tgCons g gs)) := qgs_cons h1 h2 hs
theorem zAsg {tg e : Expr} {s : SE} {g : GT} {pos : Pos} (he : PE X e (sm X.K cv W (rD X.K) s)) (hg : PG X tg (gT X.K kp g)) (hs : swapsWithSole [tg] e pos.line X.env = pure false := by rfl) (hw : swappedStores [tg] e X.env = pure none := by rfl)
    (h1 : (assignEach [tg] X.env).map (·.2) = [assign tg X.env] := by rfl) : PS X (.Assign [tg] e pos) (ss X.K cv W kp (sAsg s g)) := qs_asg he hg hs hw h1
theorem zPar (i j : Nat) {x y : Str} {a b : Expr} {os : SA} {px py pt : Pos} {kt k2 pt2} {pos : Pos} (nd : X.N.Nodup) (hc : X.calm = true) (ha : PA X [a, b] (sm X.K cv W (rL X.K) os)) (hki : kp i = false := by rfl) (hkj : kp j = false := by rfl) (hi : X.N[i]? = some x := by rfl) (hj : X.N[j]? = some y := by rfl) (hij : i ≠ j := by decide)
    (hx : X.env.scope.names.lookup x = some .local := by rfl) (hy : X.env.scope.names.lookup y = some .local := by rfl)
    (hw : swappedStores [.Tuple [.Name x px, .Name y py] kt pt] (.Tuple [a, b] k2 pt2) X.env = pure (some [x, y]) := by rfl)
    (hs : swapsWithSole [.Tuple [.Name x px, .Name y py] kt pt] (.Tuple [a, b] k2 pt2) pos.line X.env = pure false := by rfl) :
    PS X (.Assign [.Tuple [.Name x px, .Name y py] kt pt] (.Tuple [a, b] k2 pt2) pos) (ss X.K cv W kp (sPar i j os)) := qs_par hki hkj hc nd hi hj hij hx hy ha hw hs
theorem zExpr {e : Expr} {s : SE} {pos : Pos} (he : PE X e (sm X.K cv W (rD X.K) s)) (hs : swapsWith e none pos.line X.env = pure false := by rfl) : PS X (.Expr e pos) (ss X.K cv W kp (sDrop s)) := qs_expr he hs
theorem zStore (i : Nat) {x : Str} {ei e : Expr} {ix s : SE} {p tpos pos : Pos} (he : PE X e (sm X.K cv W (rD X.K) s)) (hi : PE X ei (sm X.K cv W (rD X.K) ix)) (hN : X.N[i]? = some x := by rfl) (hv : Vis X.env.scope x := by first | exact .inl rfl | exact .inr (.inl rfl) | exact .inr (.inr rfl)) (hd : (x == ("__debug__" : Str)) = false := by decide +kernel) (hcd : (x == ("__classdict__" : Str)) = false := by decide +kernel)
    (ha : ∀ v, assign (.Subscript (.Name x p) ei tpos) X.env v = (do
      let ov ← holding [v] (eval (.Name x p) X.env)
      let iv ← holding [v, ov] (eval ei X.env)
      standAt tpos
      holding [v, ov, iv] (setItem ov iv v)
      release [v, ov, iv] []) := by intro _; rfl)
    (hs : swapsWithSole [.Subscript (.Name x p) ei tpos] e pos.line X.env = pure false := by rfl) (hw : swappedStores [.Subscript (.Name x p) ei tpos] e X.env = pure none := by rfl)
    (h1 : (assignEach [.Subscript (.Name x p) ei tpos] X.env).map (·.2) = [assign (.Subscript (.Name x p) ei tpos) X.env] := by rfl) :
    PS X (.Assign [.Subscript (.Name x p) ei tpos] e pos) (ss X.K cv W kp (sStore i ix s)) := qs_store hN hv hd hcd he hi ha hs hw h1
theorem zFor {tg iter : Expr} {b : List Stmt} {it : SI} {g : GT} {body : SS} {pos : Pos} (hp : PassesOwn (model X.prog X.w) X.A X.env X.xe) (hc : X.calm = true) (hi : PI X tg iter (si X.K cv W it)) (hg : PG X tg (gT X.K kp g)) (hb : PSs X b (ss X.K cv W kp body))
    (hs : ∀ x, foldedSetIterable iter X.env x = pure x := by intro _; rfl) : PS X (.For tg iter b [] pos) (ss X.K cv W kp (sFor it g body)) := qs_for hp hc hi hg hb hs
theorem zForB (i j : Nat) {x y : Str} {b : List Stmt} {body : SS} {px py pos : Pos} (nd : X.N.Nodup) (hp : PassesOwn (model X.prog X.w) X.A X.env X.xe) (hc : X.calm = true) (hb : PSs X b (ss X.K cv W (fun q => kp q || q == i || q == j) body)) (hij : i ≠ j := by decide) (hkj : kp j = false := by rfl) (hi : X.N[i]? = some x := by rfl) (hj : X.N[j]? = some y := by rfl) (hv : Vis X.env.scope x := by first | exact .inl rfl | exact .inr (.inl rfl) | exact .inr (.inr rfl)) (hx : L2.Loc X.env.scope y := by first | exact .inl rfl | exact .inr rfl)
    (hd : (x == ("__debug__" : Str)) = false := by decide +kernel) (hcd : (x == ("__classdict__" : Str)) = false := by decide +kernel) (hf : X.fn y = true ∨ X.env.scope.names.lookup y = some .local := by first | exact .inl rfl | exact .inr rfl) (hs : ∀ v, foldedSetIterable (.Name x px) X.env v = pure v := by intro _; rfl) :
    PS X (.For (.Name y py) (.Name x px) b [] pos) (ss X.K cv W kp (sForB i j body)) := qs_forB hij hkj hp hc nd hi hj hv hx hd hcd hf hb hs
/-! walked -/
theorem iR1 {tg a : Expr} {os : SA} {p pos : Pos} (hm : X.mg "range" = none) (ha : PA X [a] (sm X.K cv W (rL X.K) os)) (hg : Gl X "range" := by rfl) (hs : notStar a = true := by rfl) : PI X tg (.Call (.Name "range" p) [a] [] pos) (si X.K cv W (aTmps os fRg1)) := qi_range1 hg hm hs ha
theorem iR2 {tg a b : Expr} {os : SA} {p pos : Pos} (hm : X.mg "range" = none) (ha : PA X [a, b] (sm X.K cv W (rL X.K) os)) (hg : Gl X "range" := by rfl) (hs : notStar a = true := by rfl) (hs2 : notStar b = true := by rfl) : PI X tg (.Call (.Name "range" p) [a, b] [] pos) (si X.K cv W (aTmps os fRg2)) := qi_range2 hg hm hs hs2 ha
theorem iR3 {tg a b c : Expr} {os : SA} {p pos : Pos} (hm : X.mg "range" = none) (ha : PA X [a, b, c] (sm X.K cv W (rL X.K) os)) (hg : Gl X "range" := by rfl) (hs : [a, b, c].all notStar = true := by rfl) : PI X tg (.Call (.Name "range" p) [a, b, c] [] pos) (si X.K cv W (aTmps os fRg3)) := qi_range3 hg hm hs ha
theorem iZip {e e2 : Expr} {os : SA} {p pos tpos : Pos} {elts : List Expr} {kk : Nat} (hm : X.mg "zip" = none) (ha : PA X [e, e2] (sm X.K cv W (rL X.K) os)) (hg : Gl X "zip" := by rfl) (hs : notStar e = true := by rfl) (hs2 : notStar e2 = true := by rfl) : PI X (.Tuple elts kk tpos) (.Call (.Name "zip" p) [e, e2] [] pos) (si X.K cv W (aTmps os fZip)) := qi_zip hg hm hs hs2 ha
theorem iEnum {e : Expr} {os : SA} {p pos tpos : Pos} {elts : List Expr} {kk : Nat} (hm : X.mg "enumerate" = none) (ha : PA X [e] (sm X.K cv W (rL X.K) os)) (hg : Gl X "enumerate" := by rfl) (hs : notStar e = true := by rfl) : PI X (.Tuple elts kk tpos) (.Call (.Name "enumerate" p) [e] [] pos) (si X.K cv W (aTmps os fEnum)) := qi_enum hg hm hs ha
/-! comprehensions -/
theorem kLc (own : List (Str × Nat)) {elt tg iter : Expr} {ifs : List Expr} {scope : Scope} {pos : Pos} {it : SI} {g : GT} {t : SM Bool} {el : SE} (nd : X.N.Nodup) (c : At X W j) (hi : PI X tg iter (si X.K cv W it))
    (hg : ∀ (s : Shared) (H : Hp) (C : Addr) (cl : List (Str × Addr)) (fp : List Addr), PG (X.blk s H scope (compEnvC scope cl C X.env) fp) tg (gT X.K (kpv (own.map (·.2))) g))
    (ht : ∀ (s : Shared) (H : Hp) (C : Addr) (cl : List (Str × Addr)) (fp : List Addr), At (X.blk s H scope (compEnvC scope cl C X.env) fp) WF j → PTs (X.blk s H scope (compEnvC scope cl C X.env) fp) ifs (sm X.K cv WF rB t))
    (he : ∀ (s : Shared) (H : Hp) (C : Addr) (cl : List (Str × Addr)) (fp : List Addr), At (X.blk s H scope (compEnvC scope cl C X.env) fp) WF j → PE (X.blk s H scope (compEnvC scope cl C X.env) fp) elt (sm X.K cv WF (rD X.K) el)) (ok : blkC X.N X.env.scope scope own = true := by rfl) (hs : ∀ x, foldedSetIterable iter X.env x = pure x := by intro _; rfl) :
    PE X (.ListComp elt [⟨tg, iter, ifs, 0⟩] scope pos) (sm X.K cv W (rD X.K) (sLc it g t el (own.map (·.2)))) := px_lc c.calm nd hi (blkOk_by ok) hg (fun s H C cl fp => ht s H C cl fp c.blk) (fun s H C cl fp => he s H C cl fp c.blk) hs
theorem kGen (own : List (Str × Nat)) {c P : Addr} {nm : Str} {elt tg iter : Expr} {ifs : List Expr} {p pos gpos : Pos} {scope : Scope} {it : SI} {g : GT} {t : SM Bool} {el : SE} {stop : Bool} (nd : X.N.Nodup) (a : At X W j) (hr : Room (2 * j + 1) X.A) (hT : Tabs.T P) (TB : GxR.TabB X.base X.mg c P) (hcode : X.env.code = .ref c) (hm : X.mg nm = none) (hi : PI X tg iter (si X.K cv W it))
    (hg : ∀ (s : Shared) (H : Hp) (C : Addr) (code : Value) (A : Around) (fp : List Addr), PG (PG.gCx X s H (PG.gEnv X scope C code) A fp) tg (gT X.K (kpv (own.map (·.2))) g))
    (ht : ∀ (s : Shared) (H : Hp) (C : Addr) (code : Value) (A : Around) (fp : List Addr), At (PG.gCx X s H (PG.gEnv X scope C code) A fp) WF j → PTs (PG.gCx X s H (PG.gEnv X scope C code) A fp) ifs (sm X.K cv WF rB t))
    (he : ∀ (s : Shared) (H : Hp) (C : Addr) (code : Value) (A : Around) (fp : List Addr), At (PG.gCx X s H (PG.gEnv X scope C code) A fp) WF j → PE (PG.gCx X s H (PG.gEnv X scope C code) A fp) elt (sm X.K cv WF (rD X.K) el))
    (hnm : (stop = false ∧ nm = "all") ∨ (stop = true ∧ nm = "any") := by first | exact .inl ⟨rfl, rfl⟩ | exact .inr ⟨rfl, rfl⟩) (hgl : Gl X nm := by rfl) (ok : PG.genC X.N X.env.scope scope own = true := by rfl) (hs : ∀ v, genFold iter X.env v = pure v := by intro _; rfl) :
    PE X (.Call (.Name nm p) [.GeneratorExp elt [⟨tg, iter, ifs, 0⟩] scope gpos] [] pos) (sm X.K cv W (rD X.K) (sGen stop it g t el (own.map (·.2)))) :=
  px_gen hT a.calm hr hnm hgl hm TB hcode nd (PG.genOk_by ok) hi (fun s H C code A fp _ => hg s H C code A fp) (fun s H C code A fp r => ht s H C code A fp (At.gen a.calm r)) (fun s H C code A fp r => he s H C code A fp (At.gen a.calm r)) hs
theorem qts_one {c : Expr} {t : SM Bool} (h : PT X c (sm X.K cv W rB t)) : PTs X [c] (sm X.K cv W rB t) := pts_one h
end
end PV
set_option Elab.async false
set_option linter.all false
set_option maxRecDepth 100000
set_option maxHeartbeats 4000000
namespace PV
open PySem PySem.Spec PyProof.Rows L2
variable [Tabs]
section
variable {X : Cx} {cv : Nat → Value} {W : WX} {j : Nat}
theorem kGmax (own : List (Str × Nat)) {c P : Addr} {elt tg iter : Expr} {ifs : List Expr} {p pos gpos : Pos} {scope : Scope} {it : SI} {g : GT} {t : SM Bool} {el : SE} (nd : X.N.Nodup) (a : At X W j) (hr : Room (2 * j + 1) X.A) (hT : Tabs.T P) (TB : GxR.TabB X.base X.mg c P) (hcode : X.env.code = .ref c) (hm : X.mg "max" = none) (hi : PI X tg iter (si X.K cv W it))
    (hg : ∀ (s : Shared) (H : Hp) (C : Addr) (code : Value) (A : Around) (fp : List Addr), PG (PG.gCx X s H (PG.gEnv X scope C code) A fp) tg (gT X.K (kpv (own.map (·.2))) g))
    (ht : ∀ (s : Shared) (H : Hp) (C : Addr) (code : Value) (A : Around) (fp : List Addr), At (PG.gCx X s H (PG.gEnv X scope C code) A fp) WF j → PTs (PG.gCx X s H (PG.gEnv X scope C code) A fp) ifs (sm X.K cv WF rB t))
    (he : ∀ (s : Shared) (H : Hp) (C : Addr) (code : Value) (A : Around) (fp : List Addr), At (PG.gCx X s H (PG.gEnv X scope C code) A fp) WF j → PE (PG.gCx X s H (PG.gEnv X scope C code) A fp) elt (sm X.K cv WF (rD X.K) el))
    (hgl : Gl X "max" := by rfl) (ok : PG.genC X.N X.env.scope scope own = true := by rfl) (hs : ∀ v, genFold iter X.env v = pure v := by intro _; rfl) :
    PE X (.Call (.Name "max" p) [.GeneratorExp elt [⟨tg, iter, ifs, 0⟩] scope gpos] [] pos) (sm X.K cv W (rD X.K) (sGmax it g t el (own.map (·.2)))) :=
  px_gmax hT a.calm hr hgl hm TB hcode nd (PG.genOk_by ok) hi (fun s H C code A fp _ => hg s H C code A fp) (fun s H C code A fp r => ht s H C code A fp (At.gen a.calm r)) (fun s H C code A fp r => he s H C code A fp (At.gen a.calm r)) hs
end
end PV
set_option Elab.async false
set_option linter.all false
set_option maxRecDepth 100000
set_option maxHeartbeats 4000000
namespace PV
open PySem PySem.Spec PyProof.Rows L2
variable [Tabs]

/-! ## a name's last use -/
def sMove (i : Nat) : SE := fun e => match e[i]? with
  | some (some d) => .ok d (e.set i none)
  | _ => .bad
section
variable {X : Cx} {cv : Nat → Value} {W : WX} {j : Nat}
theorem eM (i : Nat) {x : Str} {pos : Pos} (hN : X.N[i]? = some x := by rfl) (hv : Vis X.env.scope x := by first | exact .inl rfl | exact .inr (.inl rfl) | exact .inr (.inr rfl)) (hd : (x == ("__debug__" : Str)) = false := by decide +kernel) (hcd : (x == ("__classdict__" : Str)) = false := by decide +kernel) :
    PE X (.Name x pos) (sm X.K cv W (rD X.K) (sMove i)) := (pe_var hN hv hd hcd).imp fun σ H Q ⟨F, env, B, w, f⟩ => by
  simp only [sMove] at f
  split at f
  · rename_i d q
    obtain ⟨v, A, B', h1, h2, h3, h4⟩ := EnvR.take _ _ _ i _ w.er q
    have dd : Dis F (A ++ B') := w.dis.perm h3
    exact ⟨v, h1, f v H F A B' Ext.refl ⟨h4, dd.right, w.tr, w.tab⟩ h2 dd fun a ha => .inl (h3.mem_iff.mpr ha)⟩
  · exact False.elim f
end

/-! ## a list comprehension over a part of what a name holds -/
def fzO : Option D → Option D
  | some d => if d.isFz then some d else none
  | none => none
def keepI : Nat → Env → Env
  | _, [] => []
  | 0, o :: e => o :: e.map fzO
  | i + 1, o :: e => fzO o :: keepI i e
section
variable {K : PySem.W.Frag} {cv : Nat → Value} {W : WX}
theorem EnvR.keepF {H : Hp} {F : Addr → Prop} : ∀ {e : Env} {σ : L2.St} {B : List Addr}, EnvR K H F σ e B → EnvR K H F σ (e.map fzO) []
  | [], σ, B, h => by
    simp only [EnvR] at h
    simp [EnvR, h.1]
  | none :: e, σ, B, h => by
    simp only [EnvR] at h
    obtain ⟨s, σ', rfl, r⟩ := h
    simp only [List.map_cons, fzO, EnvR]
    exact ⟨s, σ', rfl, r.keepF⟩
  | some d :: e, σ, B, h => by
    simp only [EnvR] at h
    obtain ⟨v, σ', A, B', rfl, rfl, o, r⟩ := h
    simp only [List.map_cons, fzO]
    split
    · rename_i hz
      obtain ⟨rfl, z⟩ := o.isFz hz
      simp only [EnvR]
      exact ⟨v, σ', [], [], rfl, rfl, z.ow, r.keepF⟩
    · simp only [EnvR]
      exact ⟨_, σ', rfl, r.keepF⟩
theorem EnvR.keepI {H : Hp} {F : Addr → Prop} : ∀ {e : Env} {σ : L2.St} {B : List Addr} {i : Nat} {d : D}, EnvR K H F σ e B → e[i]? = some (some d) →
    ∃ v A B', σ[i]? = some (some v) ∧ Ow K H F v d A ∧ B.Perm (A ++ B') ∧ EnvR K H F σ (e.set i none) B' ∧ EnvR K H F σ (keepI i e) A
  | [], σ, B, i, d, h, q => by simp at q
  | none :: e, σ, B, 0, d, h, q => by simp at q
  | some d' :: e, σ, B, 0, d, h, q => by
    simp at q
    subst q
    simp only [EnvR] at h
    obtain ⟨v, σ', A, B', rfl, rfl, o, r⟩ := h
    refine ⟨v, A, B', by simp, o, .refl _, by simp only [List.set_cons_zero, EnvR]; exact ⟨_, σ', rfl, r⟩, ?_⟩
    simp only [PV.keepI, EnvR]
    exact ⟨v, σ', A, [], rfl, by simp, o, r.keepF⟩
  | none :: e, σ, B, i + 1, d, h, q => by
    simp only [EnvR] at h
    obtain ⟨s, σ', rfl, r⟩ := h
    obtain ⟨v, A, B', h1, h2, h3, h4, h5⟩ := r.keepI (i := i) (by simpa using q)
    refine ⟨v, A, B', by simpa using h1, h2, h3, by simp only [List.set_cons_succ, EnvR]; exact ⟨s, σ', rfl, h4⟩, ?_⟩
    simp only [PV.keepI, fzO, EnvR]
    exact ⟨s, σ', rfl, h5⟩
  | some d' :: e, σ, B, i + 1, d, h, q => by
    simp only [EnvR] at h
    obtain ⟨w, σ', A', B0, rfl, rfl, o, r⟩ := h
    obtain ⟨v, A, B', h1, h2, h3, h4, h5⟩ := r.keepI (i := i) (by simpa using q)
    refine ⟨v, A, A' ++ B', by simpa using h1, h2, ?_, by simp only [List.set_cons_succ, EnvR]; exact ⟨w, σ', A', B', rfl, rfl, o, h4⟩, ?_⟩
    · refine (h3.append_left A').trans ?_
      rw [← List.append_assoc, ← List.append_assoc]
      exact List.perm_append_comm.append_right B'
    · simp only [PV.keepI, fzO]
      split
      · rename_i hz
        obtain ⟨rfl, z⟩ := o.isFz hz
        simp only [EnvR]
        exact ⟨w, σ', [], A, rfl, rfl, z.ow, h5⟩
      · simp only [EnvR]
        exact ⟨_, σ', rfl, h5⟩
def sLcH (i : Nat) (q : QE) (g : GT) (c : SM Bool) (el : SE) (vs : List Nat) : SE := fun e => match e[i]? with
  | some (some d) => (match q (keepI i e) with
    | some (.lst _ l) => if isFzs l then (lcLoop g c el vs l (e.set i none) []).bind fun acc e2 => .ok (.lst true acc) ((restE (e.set i none) e2 vs).set i (some d)) else .bad
    | _ => .bad)
  | _ => .bad
theorem steps_held {H : Hp} {F : Addr → Prop} {B : List Addr} {a : Addr} {xs : List V} {ds : List D} (h : H a = some (.lst xs)) (na : a ∉ B) (r : FzL K H F xs ds) (n : ∀ c, F c → c ∉ B) : Steps K (Itl K a) H F B ds where
  go := fun i H' F' x hi => by
    obtain ⟨v, h1, _⟩ := r.get (List.getElem?_eq_getElem hi)
    exact ⟨xs, v, .inl (.inl (x.lst a xs h na)), h1⟩
  yld := fun i H' F' v H2 x hi y => by
    obtain ⟨rfl, y⟩ := y
    refine ⟨ds[i], List.getElem?_eq_getElem hi, ?_, Ext.refl⟩
    obtain ⟨v', h1, h2⟩ := (FzL.ext x n _ _ r).get (List.getElem?_eq_getElem hi)
    have := y xs (.inl (.inl (x.lst a xs h na)))
    rw [h1] at this
    cases this
    exact h2
  stop := fun H' F' x => ⟨xs, .inl (.inl (x.lst a xs h na)), by rw [r.length]; exact Nat.le_refl _⟩
theorem sLcH_read {i : Nat} {q : QE} {g : GT} {c : SM Bool} {el : SE} {vs : List Nat} {σ : L2.St} {H : Hp} {Q : VK} (h : sm K cv W (rD K) (sLcH i q g c el vs) σ H Q) :
    tLc (iList K (qr K q)) (gT K (kpv vs) g) (sm K cv WF rB c) (sm K cv WF (rD K) el) vs σ H Q := by
  obtain ⟨F, env, B, w, f⟩ := h
  simp only [sLcH] at f
  split at f
  · rename_i d hd
    split at f
    · rename_i o l hq
      split at f
      · rename_i hz
        obtain ⟨v, A, B', h1, h2, h3, h4, h5⟩ := EnvR.keepI w.er hd
        have dd : Dis F (A ++ B') := w.dis.perm h3
        have w' : Wl K σ H F (env.set i none) B' := ⟨h4, dd.right, w.tr, w.tab⟩
        have th : ∀ c ∈ A, H c ≠ none := there_D h2
        refine ⟨F, keepI i env, A, _, ⟨h5, dd.left, w.tr, w.tab⟩, hq, fun v' ob => ?_⟩
        obtain ⟨A', o1, m1⟩ := ob
        have na : ∃ a xs, v' = .ref a ∧ H a = some (.lst xs) ∧ a ∉ B' ∧ FzL K H F xs l := by
          cases o with
          | true =>
            simp only [Ow] at o1
            obtain ⟨a, xs, As, e, g1, rfl, g2⟩ := o1
            exact ⟨a, xs, e, g1, dd.apart a (m1 a List.mem_cons_self), (g2.isFz hz).2⟩
          | false =>
            simp only [Ow] at o1
            obtain ⟨_, a, xs, e, g1, g2⟩ := o1
            exact ⟨a, xs, e, g1.1, dd.right.notF a g1.2, g2⟩
        obtain ⟨a, xs, rfl, g1, g2, g3⟩ := na
        refine ⟨a, rfl, ⟨xs, .inl (.inl g1)⟩, fun D hD => sLc_core (W := W) (cv := cv) w' (steps_held g1 g2 g3 dd.right.notF) ?_ D hD⟩
        cases hl : lcLoop g c el vs l (env.set i none) [] with
        | bad => rw [hl] at f; exact f
        | exc cc e2 =>
          rw [hl] at f
          -- an exception: what is held is let go
          exact fun H' F' B2 x w2 s2 => f H' F' B2 (x.wk fun c hc => h3.mem_iff.mpr (List.mem_append_right _ hc)) w2 fun c hc => (s2 c hc).imp (fun z => h3.mem_iff.mpr (List.mem_append_right _ z)) id
        | ok acc e2 =>
          rw [hl] at f
          intro v2 H' F' A2 B2 x w2 o2 d2 s2
          have ov : Ow K H' F' v d A := Ow.ext x dd.right.notF _ _ _ (fun c hc => dd.apart c hc) h2
          have hd2 : Dis F' (A ++ (A2 ++ B2)) := hold_step th dd x s2 d2
          obtain ⟨B3, r1, r2⟩ := EnvR.reset (o := some d) h1 w2.er (fun d' z => by cases z; exact ov)
          have hd3 : Dis F' (A2 ++ (A ++ B2)) := hd2.perm (by
            rw [← List.append_assoc, ← List.append_assoc]
            exact List.perm_append_comm.append_right B2)
          refine f v2 H' F' A2 B3 (x.wk fun c hc => h3.mem_iff.mpr (List.mem_append_right _ hc)) ⟨r1, Le.dis r2 hd3.right, w2.tr, w2.tab⟩ o2 (Le.dis r2.app hd3) fun c hc => ?_
          have : c ∈ A2 ++ (A ++ B2) := r2.app.2 c hc
          rcases List.mem_append.mp this with z | z
          · exact (s2 c (List.mem_append_left _ z)).imp (fun z => h3.mem_iff.mpr (List.mem_append_right _ z)) id
          · rcases List.mem_append.mp z with z | z
            · exact .inl (h3.mem_iff.mpr (List.mem_append_left _ z))
            · exact (s2 c (List.mem_append_right _ z)).imp (fun z => h3.mem_iff.mpr (List.mem_append_right _ z)) id
      · exact False.elim f
    · exact False.elim f
  · exact False.elim f
end
section
variable {X : Cx} {cv : Nat → Value} {W : WX} {j : Nat}
theorem kLcH (i : Nat) (own : List (Str × Nat)) {elt tg iter : Expr} {ifs : List Expr} {scope : Scope} {pos : Pos} {q : QE} {g : GT} {t : SM Bool} {el : SE} (nd : X.N.Nodup) (c : At X W j) (hi : PE X iter (qr X.K q))
    (hg : ∀ (s : Shared) (H : Hp) (C : Addr) (cl : List (Str × Addr)) (fp : List Addr), PG (X.blk s H scope (compEnvC scope cl C X.env) fp) tg (gT X.K (kpv (own.map (·.2))) g))
    (ht : ∀ (s : Shared) (H : Hp) (C : Addr) (cl : List (Str × Addr)) (fp : List Addr), At (X.blk s H scope (compEnvC scope cl C X.env) fp) WF j → PTs (X.blk s H scope (compEnvC scope cl C X.env) fp) ifs (sm X.K cv WF rB t))
    (he : ∀ (s : Shared) (H : Hp) (C : Addr) (cl : List (Str × Addr)) (fp : List Addr), At (X.blk s H scope (compEnvC scope cl C X.env) fp) WF j → PE (X.blk s H scope (compEnvC scope cl C X.env) fp) elt (sm X.K cv WF (rD X.K) el)) (ok : blkC X.N X.env.scope scope own = true := by rfl) (hs : ∀ x, foldedSetIterable iter X.env x = pure x := by intro _; rfl) :
    PE X (.ListComp elt [⟨tg, iter, ifs, 0⟩] scope pos) (sm X.K cv W (rD X.K) (sLcH i q g t el (own.map (·.2)))) :=
  (pe_lc c.calm nd (pi_list hi) (blkOk_by ok) hg (fun s H C cl fp => ht s H C cl fp c.blk) (fun s H C cl fp => he s H C cl fp c.blk) hs).imp fun σ H Q => sLcH_read
/-- name = [..] on one line -/
theorem zSetLc (i : Nat) (own : List (Str × Nat)) {y : Str} {py spos : Pos} {kp : Nat → Bool} {elt tg iter : Expr} {ifs : List Expr} {scope : Scope} {pos : Pos} {it : SI} {g : GT} {t : SM Bool} {el : SE} (nd : X.N.Nodup) (c : At X W j) (hi : PI X tg iter (si X.K cv W it))
    (hg : ∀ (s : Shared) (H : Hp) (C : Addr) (cl : List (Str × Addr)) (fp : List Addr), PG (X.blk s H scope (compEnvC scope cl C X.env) fp) tg (gT X.K (kpv (own.map (·.2))) g))
    (ht : ∀ (s : Shared) (H : Hp) (C : Addr) (cl : List (Str × Addr)) (fp : List Addr), At (X.blk s H scope (compEnvC scope cl C X.env) fp) WF j → PTs (X.blk s H scope (compEnvC scope cl C X.env) fp) ifs (sm X.K cv WF rB t))
    (he : ∀ (s : Shared) (H : Hp) (C : Addr) (cl : List (Str × Addr)) (fp : List Addr), At (X.blk s H scope (compEnvC scope cl C X.env) fp) WF j → PE (X.blk s H scope (compEnvC scope cl C X.env) fp) elt (sm X.K cv WF (rD X.K) el)) (hk : kp i = false := by rfl) (hy : X.N[i]? = some y := by rfl) (hyl : X.env.scope.names.lookup y = some .local := by rfl)
    (hsw : swapsWith (.ListComp elt [⟨tg, iter, ifs, 0⟩] scope pos) (some (.Name y py)) spos.line X.env = pure true := by rfl) (ok : blkC X.N X.env.scope scope own = true := by rfl) (hs : ∀ x, foldedSetIterable iter X.env x = pure x := by intro _; rfl) :
    PS X (.Assign [.Name y py] (.ListComp elt [⟨tg, iter, ifs, 0⟩] scope pos) spos) (ss X.K cv W kp (sSet i (sLc it g t el (own.map (·.2))))) :=
  (ps_setLc c.calm nd hy hyl hsw hi (blkOk_by ok) hg (fun s H C cl fp => ht s H C cl fp c.blk) (fun s H C cl fp => he s H C cl fp c.blk) hs).imp fun D σ H h =>
    sLc_read ((sm.runS (P := rD X.K) (m := sLc it g t el (own.map (·.2))) h).mono fun v H1 ⟨F1, env1, a, A1, B1, w, p, d, f⟩ => put_read (cv := cv) (W := W) hk w p d f)
end
end PV
set_option Elab.async false
set_option linter.all false
set_option maxRecDepth 100000
set_option maxHeartbeats 4000000
namespace PV
open PySem PySem.Spec PyProof.Rows L2 LamX

/-! ## the law's end -/
def tabsOf (cs : List (Addr × Addr)) : Tabs := ⟨fun P => ∃ p ∈ cs, p.2 = P⟩
theorem ints_fz [Tabs] {K : PySem.W.Frag} {H : Hp} {F : Addr → Prop} : ∀ ns : List Int, FzL K H F (ns.map V.int) (ns.map D.int)
  | [] => by simp [FzL]
  | n :: ns => by
    simp only [List.map_cons, FzL]
    exact ⟨_, _, rfl, fz_int, ints_fz ns⟩
theorem law_at {l : PySem.W.OpenLaw} {w : World} {K : PySem.W.Frag} {mg : Str → Option Value} {fa : Addr} {h : Heap} {J n : Nat} {x nm : Str} {f : FnD} {fd : FuncData} {cs : List (Addr × Addr)} {cv : Nat → Value}
    (empty : ∀ p ∈ cs, h.get? p.2 = some { cls := .none, data := .fields #[] }) (out : ∀ p ∈ cs, K.lookup p.2 = none) (hd : ∀ p ∈ cs, PySem.W.CodeHd h p.1 p.2) (bind : ∀ (s : Shared) (u : Value), BindsTo s fd ⟨[u], []⟩ [(x, u)])
    (lk : ∃ (oc : Value) (od : Option Addr) (osl : Array (Option Value)), K.lookup fa = some ⟨oc, od, .func fd, osl⟩) (hx : mg nm = some (.ref fa))
    (ok : ∀ base : Heap, K.In base → base.Ns mainGlobals mg → (∀ p ∈ cs, GxR.TabB base mg p.1 p.2) → @FnAt (tabsOf cs) l.prog w K mg base cv J nm [x] f)
    (pure : ∀ ns : List Int, ns.length ≤ n → (∀ z ∈ ns, Builtin.Int.intBits z ≤ 1048576) → ∃ outs, f [.scr (ns.map D.int)] = .ok (.bl true) outs) : LawAtS l w K (L2N.CX l.prog w) (2 * J) n x mg fa h := by
  letI T : Tabs := tabsOf cs
  refine ⟨fd, cs, spF K cv 1 f, empty, out, hd, bind, fun H a ns hl hb hT hS => ?_, fun base hK hG hTB => ?_⟩
  · refine ⟨rfl, fun c => c = a ∧ ∃ xs, H c = some (.lst xs), [.scr (ns.map D.int)], [], ?_, Dis.nil, fun c ⟨_, xs, e⟩ => by rw [e]; simp, fun P ⟨p, hp, e⟩ => ⟨#[], by rw [← e]; exact hT p hp, trivial⟩, ?_⟩
    · simp only [OwL]
      refine ⟨_, [], [], [], rfl, by simp, ?_, rfl, rfl⟩
      simp only [Ow]
      refine ⟨trivial, a, ns.map V.int, rfl, ?_, ints_fz ns⟩
      rcases hS with (h | ⟨o, h⟩) | h
      · exact .inl ⟨h, rfl, _, h⟩
      · exact .inr (.inl ⟨o, h⟩)
      · exact .inr (.inr h)
    · obtain ⟨outs, e⟩ := pure ns hl hb
      rw [e]
      intro v H' F' A B' x1 e1 o d1 t1 s1
      simp only [Ow] at o
      exact o.2
  · obtain ⟨f', fd', F, h1, h2, h3, oc, od, osl, e⟩ := ok base hK hG fun p hp => ⟨(hTB p hp).code, (hTB p hp).bm, (hTB p hp).gP⟩
    rw [hx] at h1
    cases h1
    obtain ⟨oc2, od2, osl2, e2⟩ := lk
    rw [e2] at e
    cases e
    exact F
theorem noCX {P : Program} {w : World} {H : Hp} {s : Shared} {e : Value} {s' : Shared} (h : L2N.CX P w [] H s (fun _ _ _ => False) e s') : False := by
  obtain ⟨a, B, H', cls, d, _, _, _, _, _, _, _, hW⟩ := h
  exact hW
theorem tabs_map {K : PySem.W.Frag} {P : Addr × Addr → Prop} {tf : List He.Defn} (h : ∀ p ∈ tf, P (He.cT K p)) : ∀ q ∈ tf.map (He.cT K), P q := fun q hq => by
  obtain ⟨p, hp, e⟩ := List.mem_map.mp hq
  rw [← e]
  exact h p hp
end PV
set_option Elab.async false
set_option linter.all false
set_option maxRecDepth 100000
set_option maxHeartbeats 4000000
/-! enumerate(a tuple) -/
namespace EnT
open PySem PySem.Spec PyProof.Rows L2
theorem meets_newT {t : Addr} {cells : Array Value} :
    Meets (Builtin.«enumerate.__new__» ⟨[.type "enumerate", .ref t], []⟩) (fun _ R s => s.heap.IsTuple t cells ∧
      R (.ok (.ret (.ref (s.heap.push { cls := .type "tuple_iterator", data := .fields #[.ref t, .int 0 0] }).objs.size)))
        { s with heap := (s.heap.push { cls := .type "tuple_iterator", data := .fields #[.ref t, .int 0 0] }).push { cls := .type "enumerate", data := .fields #[.none, .bool false, .ref s.heap.objs.size, rawInt 0, .none, .none] } }) :=
  .of_wp fun prog w A R s hh => by
    obtain ⟨hp, g, d, tk, os⟩ := s
    obtain ⟨hT, hR⟩ := hh
    have hsub := sub_enumerate
    have hT' : Heap.IsTuple (Shared.heap ⟨hp, g, d, tk, os⟩) t cells := hT
    obtain ⟨oT, eT, cT, nT⟩ := id hT
    obtain ⟨oc, od, dt, sl⟩ := oT
    have hL := eT
    dsimp only at cT
    wp_walk using wpAny_loadPart' hL
    refine wpAny_stack_any fun stk => wpAny_pure ?_
    split
    · rename_i cc _ _ _ _ _
      cases (cc == Value.type "enumerate") <;> (wp_walk using wpAny_loadPart' hL, wpAny_pyIter_tuple hT'; exact ⟨_, rfl, hR⟩)
    · wp_walk using wpAny_loadPart' hL, wpAny_pyIter_tuple hT'
      exact ⟨_, rfl, hR⟩
section
variable {prog : Program} {w : World} {A : Around} {E : Value → Shared → Prop} {s : Shared}
theorem call_newT {t : Addr} {cells : Array Value} {Q : Value → Shared → Prop} (hT : s.heap.IsTuple t cells)
    (k : ∀ hN, IsEnum hN (s.heap.objs.size + 1) s.heap.objs.size 0 .none → hN.IsTupleIter s.heap.objs.size t 0 → hN.objs.size = s.heap.objs.size + 2 →
      (∀ b o, s.heap.get? b = some o → hN.get? b = some o) → Q (.ref (s.heap.objs.size + 1)) { s with heap := hN }) :
    wpAny (model prog w) A (call (.type "enumerate") [.ref t]) Q E s := by
  refine callType_new F.called_enumerate (by decide) (F.typeCall_enumerate_1 _) (F.newCall_enumerate_1 _) (fun ob => F.args_object_init_2 ob _) F.entry_enumerate_new
    (meets_newT (t := t) (cells := cells)) ⟨hT, ?_⟩
  have z1 : (s.heap.push { cls := .type "tuple_iterator", data := .fields #[.ref t, .int 0 0] }).objs.size = s.heap.objs.size + 1 := by rw [Heap.size_push]
  show _ ∧ _
  rw [z1]
  have z2 : IsEnum ((s.heap.push { cls := .type "tuple_iterator", data := .fields #[.ref t, .int 0 0] }).push
      { cls := .type "enumerate", data := .fields #[.none, .bool false, .ref s.heap.objs.size, rawInt 0, .none, .none] }) (s.heap.objs.size + 1) s.heap.objs.size 0 .none := by
    have q := Heap.get?_push_size (s.heap.push { cls := .type "tuple_iterator", data := .fields #[.ref t, .int 0 0] })
      (o := { cls := .type "enumerate", data := .fields #[.none, .bool false, .ref s.heap.objs.size, rawInt 0, .none, .none] }) rfl
    rw [z1] at q
    exact q
  exact ⟨⟨_, z2, rfl⟩, k _ z2 ⟨_, Heap.get?_push_of_some _ (Heap.get?_push_size _ rfl), rfl, rfl⟩ (by rw [Heap.size_push, z1]) fun b o q => Heap.get?_push_of_some _ (Heap.get?_push_of_some _ q)⟩
end
/-- the tuple at a as it stands at each turn, each item in a new pair -/
def IteT (K : PySem.W.Frag) (a : Addr) : It :=
  ⟨fun i H => ∃ (xs : List V) (x : V), SqT K H a xs ∧ xs[i]? = some x,
    fun i H v H' => ∃ T x, v = .ref T ∧ H T = none ∧ H' = upd H T (.tup [.int (i : Nat), x]) ∧ ∀ xs, SqT K H a xs → xs[i]? = some x,
    fun i H => ∃ xs : List V, SqT K H a xs ∧ xs.length = i⟩
theorem turnT {P : Program} {w : World} {K : PySem.W.Frag} {elts : List Expr} {kk : Nat} {tpos : Pos} (a e it : Addr) :
    Turn P w K (.Tuple elts kk tpos) (IteT K a) [e, it] e (fun i h => (∃ old, IsEnum h e it ((i : Nat) : Int) old) ∧ h.IsTupleIter it a i ∧ e ≠ it) where
  mem := by simp
  obj := fun i h st b hb => by
    obtain ⟨⟨old, he⟩, ⟨o, ho, _, hd⟩, _⟩ := st
    have hb' : b = e ∨ b = it := by simpa using hb
    rcases hb' with z | z
    · rw [z]; exact ⟨_, he, fun v q => nomatch q⟩
    · rw [z]; exact ⟨o, ho, fun v q => by rw [hd] at q; cases q⟩
  keep := fun i h h' st kk => by
    obtain ⟨⟨old, he⟩, ⟨o, ho, r⟩, hne⟩ := st
    exact ⟨⟨old, kk e (by simp) _ he⟩, ⟨o, kk it (by simp) _ ho, r⟩, hne⟩
  item := by
    intro X hP hw hK hc i pins s σ H E I hf st hg
    subst hP hw hK
    obtain ⟨⟨old, hE⟩, hI, hne⟩ := st
    obtain ⟨xs, x, hq, hx⟩ := hg
    obtain ⟨cells, rv, pT, _⟩ := I.tuple hq
    have pT' : s.heap.IsTuple a cells.toArray := pT
    obtain ⟨u, hu, ru⟩ := rv.get hx
    have eL : e < s.heap.objs.size := Heap.lt_size hE
    have iL : it < s.heap.objs.size := by obtain ⟨_, q, _⟩ := hI; exact Heap.lt_size q
    obtain ⟨oT, qT, cT, nT, dT⟩ := id pT'
    have ane : a ≠ e := fun z => by rw [z] at qT; have := qT.symm.trans hE; cases this; simp at cT
    have ani : a ≠ it := fun z => by
      obtain ⟨o, ho, c, _⟩ := hI
      rw [z] at qT
      have := qT.symm.trans ho
      cases this
      rw [c] at cT
      simp at cT
    have hlt : i < cells.toArray.size := by
      have := List.getElem?_eq_some_iff.mp hu
      simpa using this.1
    refine wpAny_pyNext_enum_itemD (Draws.tuple (prog := X.prog) (w := X.w) (A := X.A.in1) (I.ok.hd hc) it a ani cells.toArray) hE ⟨hI, pT'⟩ hlt hne (by simp [hne, Ne.symm ane]) fun y hN tk hy ho hst hT hsz hk => ?_
    have hyu : y = u := by
      have : cells[i]? = some y := by simpa using hy
      rw [hu] at this
      exact (Option.some.inj this).symm
    subst hyu
    refine ⟨_, rfl, wpAny_letOwnedTupleGo_enum (s := { s with heap := hN, toks := tk + 1 }) ho fun hM hE' sb => ?_⟩
    have hT2 : hM.get? s.heap.objs.size = some { cls := .type "tuple", data := .seq #[.int i tk, y] } := (sb.2 _ (Nat.ne_of_gt eL)).trans hT
    have nw : ObjOk X.prog X.w (upd H s.heap.objs.size (.tup [.int (i : Nat), x])) hM s.heap.objs.size (.tup [.int (i : Nat), x]) :=
      ⟨by show 2 ≤ sizeLine; decide, [.int i tk, y], .cons ⟨_, rfl⟩ (.cons ru .nil), ⟨_, hT2, rfl, _, rfl⟩⟩
    have J1 : Inv X pins σ (upd H s.heap.objs.size (.tup [.int (i : Nat), x])) { s with heap := hM, toks := tk + 1 } :=
      I.turnedNew (ch := [e, it]) (fun b ob hb q => (sb.2 b (fun z => hb (by simp [z]))).trans (hk b ob (fun z => hb (by simp [z])) (fun z => hb (by simp [z])) q)) hf (Nat.le_refl _) nw
    refine ⟨.ref s.heap.objs.size, _, J1, rfl, ⟨_, x, rfl, I.hok.fresh (Nat.le_refl _), rfl, fun ys hys => by rw [I.tuple_inj hys hq]; exact hx⟩, ⟨⟨y, ?_⟩, ?_, hne⟩, fun b hb => ?_⟩
    · have e1 : ((i + 1 : Nat) : Int) = (i : Int) + 1 := by omega
      rw [e1]; exact hE'
    · obtain ⟨o, qo, ro⟩ := hst.1
      exact ⟨o, (sb.2 it (Ne.symm hne)).trans qo, ro⟩
    · have hb' : b = e ∨ b = it := by simpa using hb
      have hlb : b < s.heap.objs.size := by
        rcases hb' with z | z
        · rw [z]; exact eL
        · rw [z]; exact iL
      rw [upd_ne (Nat.ne_of_lt hlb)]
      exact (hf b hb).1
  done := by
    intro X hP hw hK hc i pins s σ H E I hf st hg
    subst hP hw hK
    obtain ⟨⟨old, hE⟩, hI, hne⟩ := st
    obtain ⟨xs, hq, hx⟩ := hg
    obtain ⟨cells, rv, pT, _⟩ := I.tuple hq
    have pT' : s.heap.IsTuple a cells.toArray := pT
    obtain ⟨oT, qT, cT, nT, dT⟩ := id pT'
    have ani : a ≠ it := fun z => by
      obtain ⟨o, ho, c, _⟩ := hI
      rw [z] at qT
      have := qT.symm.trans ho
      cases this
      rw [c] at cT
      simp at cT
    obtain ⟨f0, f1, f2, f3, f4, f5⟩ := hf it (by simp)
    have hl := rv.length
    have hi : cells.toArray.size = i := by simp; omega
    refine wpAny_pyNext_enum_endD (Draws.tuple (prog := X.prog) (w := X.w) (A := X.A.in1) (I.ok.hd hc) it a ani cells.toArray) hE ⟨by rw [hi]; exact hI, pT'⟩ fun hN eb => ⟨rfl, I.turned (t' := s.toks) (fun b o hb q => eb b o hb q) f0 f1 f3 f4 f5⟩
  self := fun A i s Q E st h => let ⟨⟨_, he⟩, _⟩ := st; wpAny_pyIter_enum he h
def iEnT (K : PySem.W.Frag) (ta : TA) : TI := fun σ H R => ta σ H fun vs H1 => ∃ a xs, vs = [.ref a] ∧ SqT K H1 a xs ∧ R (IteT K a) H1
theorem pi_enT {X : Cx} {e : Expr} {ta : TA} {p pos tpos : Pos} {elts : List Expr} {kk : Nat} (hg : Gl X "enumerate") (hm : X.mg "enumerate" = none) (ha : PA X [e] ta) (hs : starEach [e] X.env = [(false, eval e X.env)] := by rfl) :
    PI X (.Tuple elts kk tpos) (.Call (.Name "enumerate" p) [e] [] pos) (iEnT X.K ta) := by
  refine ⟨fun pins s σ H R I h => ?_⟩
  refine Call_ (ld_blt I hg hm boot_enumerate (PyProof.Rows.callWith_type1 (thn (ha.run pos pins s σ H _ I h) fun us s1 ⟨vs, H1, J1, rv, q1⟩ => ?_) hs rfl))
  obtain ⟨a, xs, ex, hq, q⟩ := q1
  subst ex
  cases rv with
  | cons r rr =>
    cases rr
    cases r
    obtain ⟨cells, rv, pT, _⟩ := J1.tuple hq
    have pT' : s1.heap.IsTuple a cells.toArray := pT
    refine call_newT pT' fun hN hE hI hsz hk => wpAny_pyIter_enum hE ?_
    have J2 : Inv X pins σ H1 { s1 with heap := hN } := J1.kept (t' := s1.toks) hk
    refine ⟨s1.heap.objs.size + 1, [s1.heap.objs.size + 1, s1.heap.objs.size], _, _, H1, rfl, J2, turnT a (s1.heap.objs.size + 1) s1.heap.objs.size, ⟨⟨.none, hE⟩, hI, Nat.succ_ne_self _⟩, fun b hb => ?_, q⟩
    have hb' : b = s1.heap.objs.size + 1 ∨ b = s1.heap.objs.size := by simpa using hb
    have hle : s1.heap.objs.size ≤ b := hb'.elim (fun z => by rw [z]; exact Nat.le_succ _) fun z => Nat.le_of_eq z.symm
    exact J1.fpOk hle (J1.hok.fresh hle)
end EnT
set_option Elab.async false
set_option linter.all false
set_option maxRecDepth 100000
set_option maxHeartbeats 4000000
namespace PV
open PySem PySem.Spec PyProof.Rows L2
/-! ## more rules -/
theorem ints_fz0 {K : PySem.W.Frag} {H : Hp} {F : Addr → Prop} : ∀ ns : List Int, FzL K H F (ns.map V.int) (ns.map D.int)
  | [] => by simp [FzL]
  | n :: ns => by
    simp only [List.map_cons, FzL]
    exact ⟨_, _, rfl, by simp only [Fz], ints_fz0 ns⟩
/-- a constant of the module -/
def Cst (K : PySem.W.Frag) (mg : Str → Option Value) (x : Str) (d : D) : Prop := ∃ (v : V) (u : Value), mg x = some u ∧ RelV v u ∧ ∀ H F, Fz K H F v d
theorem cst_tup {K : PySem.W.Frag} {mg : Str → Option Value} {x : Str} {ns : List Int} (hm : mg x = some (.ref (He.ga K x))) (h : He.tupB K x (ns.map He.Dv.int) = true) : Cst K mg x (.tup (ns.map D.int)) :=
  ⟨.ref (He.ga K x), .ref (He.ga K x), hm, rfl, fun H F => by
    have q := He.tupB_ok h H
    rw [List.map_map] at q
    simp only [Fz]
    exact ⟨_, _, rfl, q, ints_fz0 ns⟩⟩
variable [Tabs]
section
variable {K : PySem.W.Frag} {cv : Nat → Value} {W : WX}
theorem aTmps_split {os : SA} {f g h : List D → Option (List D)} (e : ∀ d, f d = none → g d = none → h d = none) (e1 : ∀ d l, f d = some l → h d = some l) (e2 : ∀ d l, f d = none → g d = some l → h d = some l) {σ : L2.St} {H : Hp} {Rr : It → Hp → Prop}
    (q : si K cv W (aTmps os h) σ H Rr) : si K cv W (aTmps os f) σ H Rr ∨ si K cv W (aTmps os g) σ H Rr := by
  obtain ⟨F, env, B, w, q⟩ := q
  simp only [aTmps] at q
  cases z : os env with
  | bad => rw [z] at q; exact False.elim q
  | exc c e' => rw [z] at q; exact .inl ⟨F, env, B, w, by simp only [aTmps]; rw [z]; exact q⟩
  | ok as e' =>
    rw [z] at q
    simp only [R.bind] at q
    cases yt : tmps as with
    | none => rw [yt] at q; exact False.elim q
    | some ds =>
      rw [yt] at q
      simp only [Option.bind_some] at q
      cases y : f ds with
      | some l =>
        rw [e1 ds l y] at q
        exact .inl ⟨F, env, B, w, by simp only [aTmps]; rw [z]; simp only [R.bind]; rw [yt]; simp only [Option.bind_some]; rw [y]; exact q⟩
      | none =>
        cases y2 : g ds with
        | some l =>
          rw [e2 ds l y y2] at q
          exact .inr ⟨F, env, B, w, by simp only [aTmps]; rw [z]; simp only [R.bind]; rw [yt]; simp only [Option.bind_some]; rw [y2]; exact q⟩
        | none =>
          rw [e ds y y2] at q
          exact False.elim q
theorem steps_enT {H : Hp} {F : Addr → Prop} {B : List Addr} {ds : List D} {a : Addr} {xs : List V} (h : SqT K H a xs) (r : FzL K H F xs ds) (n : ∀ c, F c → c ∉ B) : Steps K (EnT.IteT K a) H F B (enumD ds) where
  go := fun i H' F' x hi => by
    obtain ⟨v, h1, _⟩ := r.get (List.getElem?_eq_getElem (show i < ds.length by simpa [enumD] using hi))
    exact ⟨xs, v, sqT_ext x h, h1⟩
  yld := fun i H' F' v H2 x hi y => by
    have hi' : i < ds.length := by simpa [enumD] using hi
    obtain ⟨T, z, rfl, hT, rfl, y⟩ := y
    refine ⟨_, enumD_get hi', ?_, Ext.laid hT⟩
    obtain ⟨v', h1, h2⟩ := (FzL.ext x n _ _ r).get (List.getElem?_eq_getElem hi')
    have := y xs (sqT_ext x h)
    rw [h1] at this
    cases this
    exact FzL.pair hT fz_int h2
  stop := fun H' F' x => ⟨xs, sqT_ext x h, by rw [r.length]; simp [enumD]⟩
end
section
variable {X : Cx} {cv : Nat → Value} {W : WX} {j : Nat}
def fEnumT : List D → Option (List D)
  | [.tup l] => some (enumD l)
  | _ => none
def fEnumA : List D → Option (List D)
  | [.lst _ l] => some (enumD (fzs l))
  | [.tup l] => some (enumD l)
  | _ => none
theorem qi_enumT {e : Expr} {os : SA} {p pos tpos : Pos} {elts : List Expr} {kk : Nat} (hg : Gl X "enumerate") (hm : X.mg "enumerate" = none) (hs : notStar e = true) (ha : PA X [e] (sm X.K cv W (rL X.K) os)) : PI X (.Tuple elts kk tpos) (.Call (.Name "enumerate" p) [e] [] pos) (si X.K cv W (aTmps os fEnumT)) :=
  (EnT.pi_enT hg hm ha (star_cons hs)).imp fun σ H Rr h => (sm.runI (P := rL X.K) (g := fun as => (tmps as).bind fEnumT) h).mono fun v H1 ⟨F1, env1, as, A1, B1, ds, w, p, d, q, f⟩ => by
    simp only [Option.bind_eq_some_iff] at q
    obtain ⟨l, q1, q2⟩ := q
    have o := tmps_ok p q1
    match l, q2 with
    | [.tup l], q2 =>
      cases q2
      have t := st_L.there p
      simp only [OwL] at o
      obtain ⟨x, xs, A2, A3, rfl, rfl, o1, rfl, rfl⟩ := o
      obtain ⟨b, xs, rfl, h1, h2⟩ := ow_tup o1
      rw [List.append_nil] at f d t
      exact ⟨b, xs, rfl, h1, f.done w d t fun n => steps_enT h1 h2.wk n⟩
theorem iEnumA {e : Expr} {os : SA} {p pos tpos : Pos} {elts : List Expr} {kk : Nat} (hm : X.mg "enumerate" = none) (ha : PA X [e] (sm X.K cv W (rL X.K) os)) (hg : Gl X "enumerate" := by rfl) (hs : notStar e = true := by rfl) :
    PI X (.Tuple elts kk tpos) (.Call (.Name "enumerate" p) [e] [] pos) (si X.K cv W (aTmps os fEnumA)) :=
  ((qi_enum hg hm hs ha).or (qi_enumT hg hm hs ha)).imp fun σ H Rr h => aTmps_split
    (by intro d; rcases d with _ | ⟨x, _ | ⟨y, z⟩⟩ <;> (try cases x) <;> simp [fEnum, fEnumT, fEnumA])
    (by intro d l; rcases d with _ | ⟨x, _ | ⟨y, z⟩⟩ <;> (try cases x) <;> simp [fEnum, fEnumT, fEnumA])
    (by intro d l; rcases d with _ | ⟨x, _ | ⟨y, z⟩⟩ <;> (try cases x) <;> simp [fEnum, fEnumT, fEnumA]) h
theorem eK {x : Str} {d : D} {pos : Pos} (h : Cst X.K X.mg x d) (hg : Gl X x := by rfl) (hd : (x == ("__debug__" : Str)) = false := by decide +kernel) : PE X (.Name x pos) (sm X.K cv W (rD X.K) (sC d)) :=
  let ⟨_, _, hm, r, f⟩ := h
  px_glob hg hm r f hd
theorem eqK {x : Str} {d : D} {pos : Pos} (h : Cst X.K X.mg x d) (hg : Gl X x := by rfl) (hd : (x == ("__debug__" : Str)) = false := by decide +kernel) : PE X (.Name x pos) (qr X.K (qC d)) :=
  let ⟨_, _, hm, r, f⟩ := h
  pq_glob hg hm r f hd
def fGcd : List D → Option D := fI2 fun i j => .int ((Nat.gcd i.natAbs j.natAbs : Nat) : Int)
theorem kGcd {x : Str} {e : Expr} {es : List Expr} {os : SA} {p pos : Pos} (hm : X.mg x = some (.builtin "math.gcd")) (ha : PA X (e :: es) (sm X.K cv W (rL X.K) os)) (hg : Gl X x := by rfl) (hdb : (x == ("__debug__" : Str)) = false := by decide +kernel) (hs : (e :: es).all notStar = true := by rfl) :
    PE X (.Call (.Name x p) (e :: es) [] pos) (sm X.K cv W (rD X.K) (sApp os fGcd)) := by
  simp only [List.all_cons, Bool.and_eq_true] at hs
  exact (pe_callBfun cr_gcd hg hm ha hdb (star_cons hs.1) (star_plain hs.2)).imp fun σ H Q h => sApp_read rule_gcd h
end
end PV
set_option Elab.async false
set_option linter.all false
set_option maxRecDepth 100000
set_option maxHeartbeats 4000000
namespace PV
open PySem PySem.Spec PyProof.Rows L2
/-! ## raise, try -/
/-- what the hook says of an own class of errors -/
def excB (K : PySem.W.Frag) (x : Str) : Bool :=
  He.eqO (PySem.W.findIn K (.ref (He.ga K x)) "__getattribute__") (some (some (.builtin "BaseException.__getattribute__"))) && (He.eqO (PySem.W.findIn K (.ref (He.ga K x)) "__getattr__") (some none) &&
  (decide (PySem.W.subIn K (.ref (He.ga K x)) (.type "BaseException") = some true) && (PySem.W.hasDictIn K (He.ga K x) && (He.eqO (PySem.W.findIn K (.ref (He.ga K x)) "__class__") (some (some (.builtin "object.__class__"))) &&
  (He.eqO (PySem.W.specialIn K (.builtin "object.__class__") "__get__") (some (some (.builtin "getset_descriptor.__get__"))) && (decide (PySem.W.takesIn K (.builtin "object.__class__") = some true) && decide (PySem.W.mroIn K (He.ga K x) (.type "object") = some true)))))))
theorem excB_ok {K : PySem.W.Frag} {x : Str} (h : excB K x = true) : ExcC K (He.ga K x) := by
  unfold excB at h
  simp only [Bool.and_eq_true, decide_eq_true_eq] at h
  obtain ⟨h1, h2, h3, h4, h5, h6, h7, h8⟩ := h
  exact ⟨He.eqO_ok h1, He.eqO_ok h2, h3, h4, He.eqO_ok h5, He.eqO_ok h6, h7, h8⟩
/-- isinstance(error of the class x, y) -/
def kitB2 (K : PySem.W.Frag) (x y : Str) (b : Bool) : Bool := decide (PySem.W.kitOne K (.ref (He.ga K x)) (.ref (He.ga K y)) = some b)
theorem kitB2_ok {K : PySem.W.Frag} {x y : Str} {b : Bool} (h : kitB2 K x y b = true) : PySem.W.kitOne K (.ref (He.ga K x)) (.ref (He.ga K y)) = some b := of_decide_eq_true h
/-- a class of errors that may be raised -/
structure RaiseC (K : PySem.W.Frag) (mg : Str → Option Value) (x : Str) : Prop where
  ex : PySem.W.excIn K (He.ga K x) He.veBase "ValueError.__new__" = true
  kp : PySem.W.keepIn K (.ref (He.ga K x)) = true
  sb : PySem.W.subIn K (.ref (He.ga K x)) (.type "BaseException") = some true
  ty : PySem.W.typeIn K (.ref (He.ga K x)) = some (.type "type")
  gl : mg x = some (.ref (He.ga K x))
theorem raiseC_of {K : PySem.W.Frag} {mg : Str → Option Value} {x : Str} (g : mg x = some (.ref (He.ga K x))) (c : (He.Fa.exc x).ok K = true) : RaiseC K mg x :=
  let ⟨h1, h2, h3, h4⟩ := He.exc_ok c
  ⟨h1, h2, h3, h4, g⟩
variable [Tabs]
section
variable {X : Cx} {cv : Nat → Value} {W : WX} {kp : Nat → Bool} {j : Nat}
def sRaise (c : Nat) : SS := fun e => .exc c e
theorem qs_raise {x m : Str} {c jj : Nat} {p p2 pos pos' : Pos} (a : At X W j) (h : RaiseC X.K X.mg x) (hcv : cv c = .ref (He.ga X.K x)) (hg : Gl X x := by rfl) (hdb : (x == ("__debug__" : Str)) = false := by decide +kernel) :
    PS X (.Raise (some (.Call (.Name x p) [.Constant (.str m) jj p2] [] pos)) none pos') (ss X.K cv W kp (sRaise c)) :=
  (L2N.ps_raise a.calm a.tk (L2N.pmk_own PySem.F.excBase_ValueError h.ex h.gl h.kp (raises_own h.sb h.ty) hg hdb)).imp fun D σ H ⟨F, env, B, w, f⟩ => by
    rw [← hcv]
    exact f σ H F B Kp.refl Ext.refl w Sub.refl
theorem At.tr {W2 : WX} {pn : List (Addr × Obj)} {xe : Value → Shared → Prop} (a : At X W j) (tk : L2N.Takes (X.tr pn xe) W2) : At (X.tr pn xe) W2 j := ⟨a.calm, tk, a.hr⟩
/-- isinstance(e, T) of the error at a, its class known -/
def sIsE (a : Addr) (o : SO) (b : Bool) : SE := fun e => (o e).bind fun x e1 => match rsv e1 x with
  | some (.adr a') => if a' = a then .ok (.bl b) e1 else .bad
  | _ => .bad
theorem kIsE {a D C : Addr} {oe : Obj} {pn : List (Addr × Obj)} {b : Bool} {y : Str} {e : Expr} {o : SO} {p p2 pos : Pos} (EC : ExcC X.K D) (hz : Zc (.ref D) none oe) (hf : ∃ vs, oe.data = .fields vs) (hm : X.mg "isinstance" = none) (hy : X.mg y = some (.ref C)) (hk : PySem.W.kitOne X.K (.ref D) (.ref C) = some b)
    (he : PE (X.suite a ((a, oe) :: pn)) e (sm X.K cv W (rA X.K) o)) (hg : Gl X "isinstance" := by rfl) (hg2 : Gl X y := by rfl) (hdb2 : (y == ("__debug__" : Str)) = false := by decide +kernel) (hs : notStar e = true := by rfl) :
    PE (X.suite a ((a, oe) :: pn)) (.Call (.Name "isinstance" p) [e, .Name y p2] [] pos) (sm X.K cv W (rD X.K) (sIsE a o b)) := by
  refine (pe_callB (X := X.suite a ((a, oe) :: pn)) (call_isE EC hz hf) hg hm (by decide +kernel) (pa_cons he (pa_cons (pe_glob (X := X.suite a ((a, oe) :: pn)) (v := .ref C) hg2 hy rfl hdb2) pa_nil) (star_cons hs)) (by decide +kernel) (by decide +kernel) (star_cons hs) rfl).imp fun σ H Q h => ?_
  refine (sm.run0 (P := rA X.K) (m := o) h).mono fun v H1 ⟨F2, env2, x, A2, B2, w2, p2, d2, f2⟩ => ?_
  split at f2
  · rename_i a' q
    split at f2
    · rename_i ha
      subst ha
      have t : ∀ c ∈ A2, H1 c ≠ none := st_A.there p2
      have ob := rsv_ok (w2.freeze d2 t) (fun c h => .inl h) (fun c h => .inr h) p2 q
      refine ⟨.ref C, .ref C, b, ?_, fun u hu => by cases hu; rfl, hk, fin_val w2 d2 t f2 fz_bl⟩
      rw [ob.adr]
    · exact False.elim f2
  · exact False.elim f2
/-- try: .. except x as n: return e -/
def sTry (i : Nat) (b : SS) (r : Nat → Option D) : SS := fun e => match b e with
  | .exc c e1 => (match r c with
    | some d => if i < e1.length then .rt d (e1.set i none) else .bad
    | none => .bad)
  | z => z
theorem qs_try {i : Nat} {n x : Str} {C0 : Addr} {body : List Stmt} {e : Expr} {np pos pos' rp : Pos} {b : SS} {r : Nat → Option D} {su : Addr → Nat → SE} (hs : X.stack = X.env :: X.outer) (hf : X.env.frame = some X.env.locals) (hN : X.N.Nodup) (hi : X.N[i]? = some n) (hln : X.env.kindOf n = some .local)
    (hc : Names X x (.ref C0)) (hk : kp i = false)
    (hb : ∀ (W : WX) (pn : List (Addr × Obj)) (xe : Value → Shared → Prop), L2N.Takes (X.tr pn xe) W → PassesOwn (model X.prog X.w) X.A X.env xe → PSs (X.tr pn xe) body (ss X.K cv W kp b))
    (hsu : ∀ (a : Addr) (oe : Obj) (k : Nat) (pn : List (Addr × Obj)), (r k).isSome = true → L2N.Zn (cv k) none oe → (∃ vs, oe.data = .fields vs) → PE (X.suite a ((a, oe) :: pn)) e (sm X.K cv WF (rD X.K) (su a k)))
    (hsv : ∀ (a : Addr) (k : Nat) (d : D) (e' : Env), r k = some d → i < e'.length → su a k (e'.set i (some (.adr a))) = .ok d (e'.set i (some (.adr a))))
    (hex : ∀ (k : Nat) (d : D), r k = some d → PySem.W.exmOne X.K (cv k) (.ref C0) = some true) :
    PS X (.Try body [.ExceptHandler (some (.Name x np)) (some n) [.Return (some e) rp] pos'] [] [] pos) (ss X.K cv W kp (sTry i b r)) := by
  refine (L2N.ps_try_as (i := i) (tb := fun W => ss X.K cv W kp b) (ts := fun a cls d => fun D σ H => ∃ k, (r k).isSome = true ∧ cls = cv k ∧ d = none ∧ ss X.K cv WF kp (sRet (su a k)) D σ H) hs hf hN hi hln hc takesN_none hb
    (fun a oe cls d pn hz hfl => ⟨fun pins s σ H D I ⟨k, hk1, e1, e2, h⟩ => ?_⟩)).imp fun D σ H ⟨F, env, B, w, f⟩ => ?_
  · subst e1 e2
    exact (qss_one (qs_ret (hsu a oe k pn hk1 hz hfl))).run pins s σ H D I h
  · refine ⟨F, env, B, w, ?_⟩
    simp only [sTry] at f
    cases q : b env with
    | nx e' => rw [q] at f; exact f
    | bk e' => rw [q] at f; exact f
    | ct e' => rw [q] at f; exact f
    | rt d e' => rw [q] at f; exact f
    | bad => rw [q] at f; exact f
    | exc c e1 =>
      rw [q] at f
      simp only [] at f
      split at f
      · rename_i d hr
        split at f
        · rename_i hl
          intro σ' H' F' B' k x' w' s'
          refine ⟨true, hex c d hr, fun _ a ha => ⟨c, by rw [hr]; rfl, rfl, rfl, ?_⟩, fun z => nomatch z⟩
          obtain ⟨B2, w2, s2⟩ := w'.asg (A := []) (v := .ref a) (d := .adr a) (i := i) (by simp [Ow]) (by simpa using w'.dis) hl
          refine ⟨F', e1.set i (some (.adr a)), B2, w2, ?_⟩
          simp only [sRet, hsv a c d e1 hr hl, R.toS]
          intro v σ2 H2 F2 A2 B3 k2 x2 w3 o3 d3 s3
          have sB : Sub B2 B' H' := fun c hc => .inl (by simpa using s2 c hc)
          obtain ⟨B4, g1, g2⟩ := EnvR.drop _ _ _ i none w3.er
          rw [List.set_set] at g1
          refine f v (σ2.set i none) H2 F2 A2 B4 ((k.trans ((Kp.set hk).trans k2)).trans (Kp.set hk)) (x'.trans (x2.wk (B1 := B') fun c hc => by simpa using s2 c hc) s') ⟨g1, w3.dis.sub g2, w3.tr, w3.tab⟩ o3 (d3.sub (g2.append_left A2)) ?_
          intro z hz
          have hz' : z ∈ A2 ++ B3 := (g2.append_left A2).subset hz
          rcases s3 z hz' with q1 | q1
          · rcases sB z q1 with q2 | q2
            · exact s' z q2
            · exact .inr (x'.fr z q2)
          · exact .inr (x'.fr z q1)
        · exact False.elim f
      · exact False.elim f
end
end PV
set_option Elab.async false
set_option linter.all false
set_option maxRecDepth 100000
set_option maxHeartbeats 4000000
/-! t[::-1] of a tuple -/
namespace RvT
open PySem PySem.Spec PyProof.Rows L2 HT
section
variable {prog : Program} {w : World} {A : Around} {E : Value → Shared → Prop} {s : Shared}
theorem places_back (n : Nat) : Builtin.Slice.slicePlaces ((n : Int) - 1) (-1) (-1) = n := by
  unfold Builtin.Slice.slicePlaces
  by_cases h : n = 0
  · subst h; rfl
  · simp
    omega
theorem adjust_back (n : Nat) : Builtin.Slice.sliceAdjust none none (-1) (n : Int) = ((n : Int) - 1, -1) := by
  unfold Builtin.Slice.sliceAdjust
  simp
theorem applied_back {sl : Addr} {vs : Value} {n : Nat} {Q : Int × Int × Nat → Shared → Prop} (hs : s.heap.IsSliceOf sl .none .none vs) (ps : IsPart vs (some (-1)))
    (h : Q ((n : Int) - 1, -1, n) s) : wpAny (model prog w) A (Builtin.Slice.sliceApplied (.ref sl) (pure (n : Int))) Q E s := by
  obtain ⟨ob, h1, h2, h3⟩ := id hs
  unfold Builtin.Slice.sliceApplied Builtin.Slice.sliceFields
  refine wpAny_bind (wpAny_bind (wpAny_field h1 h3 (x := .none) rfl (wpAny_bind (wpAny_field h1 h3 (x := .none) rfl (wpAny_bind (wpAny_field h1 h3 (x := vs) rfl (wpAny_pure ?_)))))))
  refine wpAny_bind (slicePart_ ps ?_)
  show wpAny _ _ (if ((-1 : Int) == 0) = true then _ else _) _ _ s
  rw [if_neg (by decide)]
  refine wpAny_bind (slicePart_none (wpAny_bind (slicePart_none (wpAny_bind (wpAny_pure ?_)))))
  show wpAny _ _ (match Builtin.Slice.sliceAdjust none none (-1) (n : Int) with | (lo, hi) => pure (lo, (-1 : Int), Builtin.Slice.slicePlaces lo hi (-1))) _ _ s
  rw [adjust_back n]
  show wpAny _ _ (pure ((n : Int) - 1, (-1 : Int), Builtin.Slice.slicePlaces ((n : Int) - 1) (-1) (-1))) _ _ s
  rw [places_back]
  exact wpAny_pure h
theorem fm_cong {α β : Type} {f g : α → Option β} : ∀ {l : List α}, (∀ x ∈ l, f x = g x) → l.filterMap f = l.filterMap g
  | [], _ => rfl
  | x :: l, h => by
    have h1 := h x (by simp)
    have h2 := fm_cong (l := l) fun y hy => h y (by simp [hy])
    cases q : g x with
    | none => rw [List.filterMap_cons_none (h1.trans q), List.filterMap_cons_none q, h2]
    | some b => rw [List.filterMap_cons_some (h1.trans q), List.filterMap_cons_some q, h2]
theorem pick_back (xs : Array Value) : ((List.range xs.size).filterMap fun (m : Nat) => xs[(((xs.size : Int) - 1) + (m : Int) * (-1)).toNat]?).toArray = xs.toList.reverse.toArray := by
  have e : ((List.range xs.size).filterMap fun (m : Nat) => xs[(((xs.size : Int) - 1) + (m : Int) * (-1)).toNat]?) = (((List.range xs.size).map fun k => xs.size - 1 - k).filterMap fun k => xs[k]?) := by
    rw [List.filterMap_map]
    refine fm_cong fun m hm => ?_
    have := List.mem_range.mp hm
    have e2 : (((xs.size : Int) - 1) + (m : Int) * (-1)).toNat = xs.size - 1 - m := by omega
    rw [e2]
    rfl
  rw [e, PySem.W.krv_range, List.filterMap_reverse, PySem.W.krv_all]
theorem getItem_back {t sl : Addr} {cells : Array Value} {vs : Value} {Q : Value → Shared → Prop} (hT : IsTup s.heap t cells) (hs : s.heap.IsSliceOf sl .none .none vs) (ps : IsPart vs (some (-1)))
    (h : Q (.ref s.heap.objs.size) { s with heap := s.heap.push { cls := .type "tuple", data := .seq cells.toList.reverse.toArray } }) (hz : cells.size ≤ sizeLine) : wpAny (model prog w) A (getItem (.ref t) (.ref sl)) Q E s := by
  have okz : sizeOk (.seq cells.toList.reverse.toArray) := by
    show cells.toList.reverse.toArray.size ≤ sizeLine
    simpa using hz
  obtain ⟨ob, h1, h2, h3⟩ := id hs
  have tyS : s.TypeIs (.ref sl) "slice" := ⟨ob, h1, h2⟩
  unfold getItem
  try with_reducible refine wpAny_holding ?_
  first | refine wpAny_bind (wpAny_pure ?_) | skip
  refine wpAny_bind (wpAny_sequenceKey hT.typeIs (by decide) ?_)
  refine wpAny_bind (wpAny_callSpecial?_slot (name := Str.ofString "__getitem__") hT.typeIs PyProof.Rows.slot_tuple_getitem
    (wpAny_call_entry PyProof.Rows.slot_tuple_getitem hT.typeIs entry_tuple_getitem ?_ (args_tuple_getitem _ _)))
  show wpAny _ _ (Builtin.Tuple.tupleItemsOf (.ref t) >>= _) _ _ s
  refine wpAny_bind (tupleItemsOf_ hT (wpAny_bind (wpAny_typeOf tyS ?_)))
  rw [if_pos (by decide)]
  refine wpAny_bind (applied_back hs ps ?_)
  have no : ¬ ((((cells.size : Int) - 1) == 0 && (-1 : Int) == 1 && cells.size == cells.size) = true) := by simp
  show wpAny _ _ (if ((((cells.size : Int) - 1) == 0 && (-1 : Int) == 1 && cells.size == cells.size) = true) then _ else _) _ _ s
  rw [if_neg no, pick_back]
  first
    | exact wpAny_bind (m := Builtin.Tuple.tupleExact _) (wpAny_newObj_type (wpAny_pure ⟨_, rfl, wpAny_pure h⟩) okz)
    | exact wpAny_bind (m := Builtin.Tuple.tupleExact _) (wpAny_newObj_type (wpAny_bind (wpAny_pure (wpAny_pure ⟨_, rfl, wpAny_pure h⟩))) okz)
    | exact wpAny_bind (wpAny_bind (m := Builtin.Tuple.tupleExact _) (wpAny_newObj_type (wpAny_pure (wpAny_pure ⟨_, rfl, wpAny_pure h⟩)) okz))
    | exact wpAny_bind (wpAny_bind (m := Builtin.Tuple.tupleExact _) (wpAny_newObj_type (wpAny_pure ⟨_, rfl, wpAny_pure h⟩) okz))
end
def tRevT (K : PySem.W.Frag) (te : TE) : TE := fun σ H Q => te σ H fun x H1 => ∃ a xs, x = .ref a ∧ SqT K H1 a xs ∧ ∀ p, H1 p = none → Q (.ref p) (upd H1 p (.tup xs.reverse))
theorem pe_revT {X : Cx} {e : Expr} {te : TE} {k : Nat} {p1 p2 p3 pos : Pos} (he : PE X e te) : PE X (.Subscript e (.Slice none none (some (.UnaryOp .USub (.Constant (.int 1) k p1) p2)) p3) pos) (tRevT X.K te) := by
  refine ⟨fun pins s σ H Q I h => Subscript_ (thn (he.run pins s σ H _ I h) fun v s1 ⟨x, H1, I1, r1, a, xs, ex, hx, q⟩ => ?_)⟩
  subst ex
  cases r1
  have st : PO X (some (.UnaryOp .USub (.Constant (.int 1) k p1) p2)) (tPart (tUn (rU fun i => .int (-i)) (tC (.int 1)))) := po_some (pe_un un_neg pe_int)
  refine wpAny_Slice (thn (po_none.run pins s1 σ H1 (fun o H2 => o = none ∧ H2 = H1) I1 ⟨rfl, rfl⟩) fun vl s2 ⟨l, H2, I2, pl, el, e2⟩ => ?_)
  subst el e2
  refine thn (po_none.run pins s2 σ H2 (fun o H3 => o = none ∧ H3 = H2) I2 ⟨rfl, rfl⟩) fun vu s3 ⟨u, H3, I3, pu, eu, e3⟩ => ?_
  subst eu e3
  refine thn (st.run pins s3 σ H3 (fun o H4 => o = some (-1) ∧ H4 = H3) I3 ⟨1, rfl, -1, rfl, rfl, rfl⟩) fun vs s4 ⟨o, H4, I4, ps, eo, e4⟩ => ?_
  subst eo e4
  have J : Inv X pins σ H4 { s4 with heap := s4.heap.push { cls := .type "slice", data := .fields #[vl, vu, vs] } } := I4.kept (t' := s4.toks) fun b ob z => Heap.get?_push_of_some _ z
  obtain ⟨cells, rv, hT, hz⟩ := J.tuple hx
  cases pl
  cases pu
  have hl := rv.length
  show wpAny (model X.prog X.w) X.A (subscriptTail e (.Slice none none (some (.UnaryOp .USub (.Constant (.int 1) k p1) p2)) p3) (.ref a) (.ref s4.heap.objs.size)) (EP X pins σ Q) X.xe { s4 with heap := s4.heap.push { cls := .type "slice", data := .fields #[_, _, vs] } }
  refine tail_any (ops := [.ref a, .ref s4.heap.objs.size]) hT.typeIs PyProof.Rows.slot_tuple_getitem.lookup ?_ (by with_unfolding_all rfl)
  refine getItem_back hT (Heap.IsSliceOf.new _ _ _ vs) ps ?_ (by rw [List.size_toArray]; omega)
  refine ⟨.ref _, _, J.laid (t' := s4.toks) (o := .tup xs.reverse) (fun b ob z => Heap.get?_push_of_some _ z) (Nat.le_refl _) ?_, rfl, q _ (J.hok.fresh (Nat.le_refl _))⟩
  exact ⟨by rw [List.length_reverse]; exact hz, _, rv.reverse, IsTup.new _ _⟩
end RvT
set_option Elab.async false
set_option linter.all false
set_option maxRecDepth 100000
set_option maxHeartbeats 4000000
namespace PV
open PySem PySem.Spec PyProof.Rows L2
variable [Tabs]
/-! ## xs.index(y) -/
section
variable {X : Cx} {cv : Nat → Value} {W : WX} {j : Nat}
def fIndex : D → D → Option D
  | .lst _ l, y => if SeqAt.shaped (.list (pys l)) && okEq y then ((pys l).findIdx? fun z => PyData.eqv z y.py).map fun j : Nat => D.int (j : Int) else none
  | _, _ => none
def rIndex1 (K : PySem.W.Frag) : R2 := fun x y H Q => rIndexD K x [y] H Q
theorem rule_index {K : PySem.W.Frag} : Rule2 K fIndex (rIndex1 K) := by
  intro cv W σ H F A B env x y dx dy d Q w dd t ox oy e fin
  cases dx <;> try (simp [fIndex] at e; done)
  rename_i o l
  simp only [fIndex] at e
  split at e
  · rename_i hc
    simp only [Bool.and_eq_true] at hc
    simp only [Option.map_eq_some_iff] at e
    obtain ⟨j, hj, rfl⟩ := e
    obtain ⟨a, xs, rfl, g1, _⟩ := ox.lst
    rw [List.findIdx?_eq_some_iff_getElem] at hj
    obtain ⟨h, h1, h2⟩ := hj
    refine ⟨a, y, dy.py, pys l, j, (pys l)[j], rfl, rfl, ox.dp (okEq_lay (d := .lst o l) hc.1), oy.dp (okEq_lay hc.2), hc.1, hc.2, List.getElem?_eq_getElem h, h1, fun m z hm hz => ?_, fin_val w dd t fin fz_int⟩
    have := h2 m hm
    rw [List.getElem?_eq_some_iff] at hz
    obtain ⟨_, rfl⟩ := hz
    simpa using this
  · cases e
/-- a method of a list in a name, one argument -/
def sMth (i : Nat) (o : SO) (f : D → D → Option D) : SE := fun e => match e[i]? with
  | some (some (.lst _ _)) => sTwo (oVar i) o f e
  | _ => .bad
theorem px_index {i : Nat} {x : Str} {e : Expr} {o : SO} {p apos cpos : Pos} (a : At X W j) (hN : X.N[i]? = some x) (hv : Vis X.env.scope x) (hd : (x == ("__debug__" : Str)) = false) (hcd : (x == ("__classdict__" : Str)) = false) (he : PE X e (sm X.K cv W (rA X.K) o)) (hs : notStar e = true)
    (hbase : attributeBase (.Name x p) "index" X.env (eval (.Name x p) X.env) = eval (.Name x p) X.env)
    (hfew : ((backTo cpos (starEach [e] X.env)).all (fun x => !x.1) && (backToKw cpos (keywordEach [] X.env)).all (fun x => x.1.isSome)
      && decide ([e].length + ([] : List Keyword).length + (if ([] : List Keyword).isEmpty then 0 else 1) < 30)) = true) (hline : (apos.endLine == cpos.line) = true) :
    PE X (.Call (.Attribute (.Name x p) "index" apos) [e] [] cpos) (sm X.K cv W (rD X.K) (sMth i o fIndex)) :=
  (pe_bm (r := rIndexD X.K) PySem.F.plainAttrs_list PySem.F.slot_list_index PySem.F.type_list_index (mt_indexD (by have := a.hr.un; omega)) (pe_var hN hv hd hcd) (pa_cons he pa_nil (star_cons hs)) hbase hfew hline (star_cons hs)).imp fun σ H Q ⟨F0, env0, B0, w0, f0⟩ => by
    simp only [sMth] at f0
    split at f0
    · rename_i o0 l0 q0
      obtain ⟨v0, h0, ob0⟩ := env_get (i := i) (d := .lst o0 l0) w0 (by simp only [qVar, q0])
      obtain ⟨a0, xs0, rfl, g1, _⟩ := ob0.lst
      refine ⟨_, h0, .inl ⟨rfl, _, SqL.of g1⟩, ?_⟩
      have eo : oVar i env0 = .ok (.slot i) env0 := by simp only [oVar, q0]
      simp only [sTwo, eo] at f0
      refine (sm.run0 (P := rA X.K) (m := o) ⟨F0, env0, B0, w0, f0⟩).mono fun y H1 ⟨F, env, b, A, B, w, p, dd, f⟩ => ?_
      split at f
      · rename_i dx dy q1 q2
        split at f
        · rename_i r q3
          have t : ∀ c ∈ A, H1 c ≠ none := st_A.there p
          have w6 := w.freeze dd t
          have sl : rA X.K σ H1 F (V.ref a0) (.slot i) [] := ⟨rfl, h0⟩
          exact rule_index w dd t (rsv_ok w6 (fun c h => .inl h) (fun c h => by cases h) sl q1) (rsv_ok w6 (fun c h => .inl h) (fun c h => .inr h) p q2) q3 f
        · exact False.elim f
      · exact False.elim f
    · exact False.elim f0
/-! t[::-1] -/
def fRevS : D → Option D
  | .tup l => some (.tup l.reverse)
  | .lst _ l => if isFzs l then some (.lst true l.reverse) else none
  | _ => none
theorem FzL.snoc {K : PySem.W.Frag} {H : Hp} {F : Addr → Prop} : ∀ {l : List D} {xs : List V} {d : D} {x : V}, FzL K H F xs l → Fz K H F x d → FzL K H F (xs ++ [x]) (l ++ [d])
  | [], xs, d, x, h, q => by
    simp only [FzL] at h
    subst h
    simp only [List.nil_append, FzL]
    exact ⟨x, [], rfl, q, rfl⟩
  | e :: l, xs, d, x, h, q => by
    simp only [FzL] at h
    obtain ⟨y, ys, rfl, r, h⟩ := h
    simp only [List.cons_append, FzL]
    exact ⟨y, ys ++ [x], rfl, r, FzL.snoc h q⟩
theorem FzL.rev {K : PySem.W.Frag} {H : Hp} {F : Addr → Prop} : ∀ {l : List D} {xs : List V}, FzL K H F xs l → FzL K H F xs.reverse l.reverse
  | [], xs, h => by
    simp only [FzL] at h
    subst h
    simp [FzL]
  | e :: l, xs, h => by
    simp only [FzL] at h
    obtain ⟨y, ys, rfl, r, h⟩ := h
    rw [List.reverse_cons, List.reverse_cons]
    exact (FzL.rev h).snoc r
theorem _root_.L2.PE.or {X : Cx} {e : Expr} {t t' : TE} (h : PE X e t) (h' : PE X e t') : PE X e (fun σ H Q => t σ H Q ∨ t' σ H Q) :=
  ⟨fun pins s σ H Q I hw => hw.elim (h.run pins s σ H Q I) (h'.run pins s σ H Q I)⟩
theorem px_revS {e : Expr} {o : SO} {k : Nat} {p1 p2 p3 pos : Pos} (he : PE X e (sm X.K cv W (rA X.K) o)) :
    PE X (.Subscript e (.Slice none none (some (.UnaryOp .USub (.Constant (.int 1) k p1) p2)) p3) pos) (sm X.K cv W (rD X.K) (sOne o fRevS)) := by
  refine ⟨fun pins s σ H Q I h => ?_⟩
  obtain ⟨F0, env0, B0, w0, f0⟩ := h
  have key : (∃ l, True) := ⟨0, trivial⟩
  refine ((pe_revL he).or (RvT.pe_revT he)).run pins s σ H Q I ?_
  have h2 := sm.run0 (P := rA X.K) (m := o) ⟨F0, env0, B0, w0, f0⟩
  cases z : o env0 with
  | bad =>
    simp only [sOne, z, R.bind] at f0
    exact False.elim f0
  | exc c e' =>
    simp only [sOne, z, R.bind] at f0
    exact .inl ⟨F0, env0, B0, w0, by rw [z]; exact f0⟩
  | ok a e1 =>
    simp only [sOne, z, R.bind] at f0
    cases q : rsv e1 a with
    | none => rw [q] at f0; exact False.elim f0
    | some d =>
      rw [q] at f0
      cases d <;> try (exact False.elim f0)
      · rename_i l
        refine .inr ⟨F0, env0, B0, w0, ?_⟩
        rw [z]
        intro v H1 F1 A1 B1 x1 w1 p1 d1 s1
        have f1 := Fin.step (x1) s1 f0
        have t : ∀ c ∈ A1, H1 c ≠ none := st_A.there p1
        have ob := rsv_ok (w1.freeze d1 t) (fun c h => .inl h) (fun c h => .inr h) p1 q
        obtain ⟨b, xs, rfl, g1, g2⟩ := ob.tup
        exact ⟨b, xs, rfl, g1, fun p hp => Fin.newT hp w1 d1 t f1 g2.rev⟩
      · rename_i o' l
        simp only [fRevS] at f0
        by_cases hz : isFzs l = true
        · simp only [hz, if_true] at f0
          refine .inl ⟨F0, env0, B0, w0, ?_⟩
          rw [z]
          intro v H1 F1 A1 B1 x1 w1 p1 d1 s1
          have f1 := Fin.step (x1) s1 f0
          have t : ∀ c ∈ A1, H1 c ≠ none := st_A.there p1
          have ob := rsv_ok (w1.freeze d1 t) (fun c h => .inl h) (fun c h => .inr h) p1 q
          obtain ⟨b, xs, rfl, g1, _, g2⟩ := ob.lst
          exact ⟨b, xs, rfl, SqL.of g1, fun p hp => Fin.newL hp w1 d1 t f1 (g2 hz).rev⟩
        · simp only [hz] at f0
          exact False.elim f0
theorem kIndex (i : Nat) {x : Str} {e : Expr} {o : SO} {p apos cpos : Pos} (a : At X W j) (he : PE X e (sm X.K cv W (rA X.K) o)) (hN : X.N[i]? = some x := by rfl) (hv : Vis X.env.scope x := by first | exact .inl rfl | exact .inr (.inl rfl) | exact .inr (.inr rfl)) (hd : (x == ("__debug__" : Str)) = false := by decide +kernel) (hcd : (x == ("__classdict__" : Str)) = false := by decide +kernel) (hs : notStar e = true := by rfl)
    (hbase : attributeBase (.Name x p) "index" X.env (eval (.Name x p) X.env) = eval (.Name x p) X.env := by rfl)
    (hfew : ((backTo cpos (starEach [e] X.env)).all (fun x => !x.1) && (backToKw cpos (keywordEach [] X.env)).all (fun x => x.1.isSome)
      && decide ([e].length + ([] : List Keyword).length + (if ([] : List Keyword).isEmpty then 0 else 1) < 30)) = true := by rfl) (hline : (apos.endLine == cpos.line) = true := by rfl) :
    PE X (.Call (.Attribute (.Name x p) "index" apos) [e] [] cpos) (sm X.K cv W (rD X.K) (sMth i o fIndex)) := px_index a hN hv hd hcd he hs hbase hfew hline
end
end PV
set_option Elab.async false
set_option linter.all false
set_option maxRecDepth 100000
set_option maxHeartbeats 4000000
namespace PV
open PySem PySem.Spec PyProof.Rows L2
variable [Tabs]
/-! ## the lists within a list become shared -/
def frzI (i : Nat) (e : Env) : Env := match e[i]? with
  | some (some (.lst true l)) => e.set i (some (.lst true (fzs l)))
  | _ => e
section
variable {K : PySem.W.Frag} {cv : Nat → Value} {W : WX} {σ : L2.St} {H : Hp}
theorem sm_frz {α ν : Type} {P : Rp α ν} {m : SM α} {Q : ν → Hp → Prop} (i : Nat) (h : sm K cv W P (fun e => m (frzI i e)) σ H Q) : sm K cv W P m σ H Q := by
  obtain ⟨F, env, B, w, f⟩ := h
  simp only [frzI] at f
  split at f
  · rename_i l q
    obtain ⟨a, xs, As, B', h1, h2, h3, h4, h5⟩ := w.focus q
    have d0 : Dis F (a :: As ++ B') := w.dis.perm h4
    have dd : Dis F (As ++ (a :: B')) := d0.perm (by simpa using (List.perm_middle (a := a) (l₁ := As) (l₂ := B')).symm)
    have th : ∀ c ∈ As, H c ≠ none := fun c hc => by
      obtain ⟨xs, e⟩ := OwL.there _ _ _ h3 c hc
      rw [e]; simp
    have w5 : Wl K σ H (fun c => F c ∨ c ∈ As) (env.set i none) B' := h5.freeze (A := As) (dd.sub (by simp)) th
    have o : Ow K H (fun c => F c ∨ c ∈ As) (.ref a) (.lst true (fzs l)) [a] := by
      simp only [Ow]
      exact ⟨a, xs, [], rfl, h2, rfl, (OwL.fz (fun _ h => .inl h) _ _ _ h3 (fun c hc => .inr hc)).ow⟩
    obtain ⟨B3, r1, r2⟩ := EnvR.reset (o := some (.lst true (fzs l))) h1 w5.er (fun d' z => by cases z; exact o)
    rw [List.set_set] at r1
    have mB : ∀ c, c ∈ a :: As ++ B' → c ∈ B := fun c h => h4.mem_iff.mpr h
    have d3 : Dis (fun c => F c ∨ c ∈ As) ([a] ++ B') := ⟨dd.right.1, fun c hc z => z.elim (dd.right.2 c hc) fun z => dd.apart c z hc⟩
    refine ⟨_, _, B3, ⟨r1, Le.dis r2 d3, w5.tr, w5.tab⟩, Fin.step (Ext.freeze (A := As) (fun c hc => mB c (by simp [hc])) th) (fun c hc => .inl (mB c ?_)) f⟩
    have := r2.2 c hc
    simp at this
    rcases this with z | z <;> simp [z]
  · exact ⟨F, env, B, w, f⟩
end
def sFrz {α : Type} (i : Nat) (m : SM α) : SM α := fun e => m (frzI i e)
section
variable {X : Cx} {cv : Nat → Value} {W : WX} {j : Nat}
theorem xFrz (i : Nat) {e : Expr} {m : SE} (h : PE X e (sm X.K cv W (rD X.K) m)) : PE X e (sm X.K cv W (rD X.K) (sFrz i m)) := h.imp fun _ _ _ => sm_frz i
/-! ## xs.remove(y) -/
def rRemD (K : PySem.W.Frag) : V → List V → Hp → VK → Prop := fun x xs H Q => ∃ (a : Addr) (y : V) (d : PyData) (ds : List PyData) (j : Nat) (z : PyData) (vs : List V), x = V.ref a ∧ xs = [y] ∧ Dp K H (V.ref a) (.list ds) ∧ Dp K H y d ∧
  SeqAt.shaped (.list ds) = true ∧ SeqAt.shaped d = true ∧ ds[j]? = some z ∧ PyData.eqv z d = true ∧ (∀ (m : Nat) (z' : PyData), m < j → ds[m]? = some z' → PyData.eqv z' d = false) ∧ H a = some (.lst vs) ∧ Q .non (upd H a (.lst (vs.eraseIdx j)))
theorem mt_removeD (hu : X.A.units + 65 < cLine) : MtM X "list.remove" (rRemD X.K) := by
  intro pins s σ H x xs v us Q I rx rxs h
  obtain ⟨a, y, d, ds, j, z, vs, rfl, rfl, hl, hy, sl, sd, hz, hzj, hno, hH, q⟩ := h
  cases rx
  cases rxs with
  | cons ry rt =>
    rename_i uy ut
    cases rt
    obtain ⟨bs, r1⟩ := Dp.reads I d y uy hy ry
    have hxs : PyData.canLayAll0 ds = true := SeqAt.canLay_of_shaped sl
    have hroom : X.A.units + 1 + min (PyData.depthAll ds) d.depth < cLine := room_in_shaped sd hu
    obtain ⟨z0, its, n, r, hlen0, e⟩ := I.lstM hH
    cases hl with
    | lst hs ha =>
      obtain ⟨its', rv, ⟨⟨cls, dd, data, sls⟩, n', ho, hc, hdn, hdt⟩, hlen⟩ := I.list hs
      simp only at hc hdt
      subst hc hdt
      rw [e] at ho
      have ee := Option.some.inj ho
      simp only [Obj.mk.injEq, Data.seq.injEq] at ee
      obtain ⟨-, hdd, ⟨hits, hn'⟩, hsls⟩ := ee
      have hits : its = its' := by
        have := congrArg Array.toList hits
        simpa using this
      subst hits
      obtain ⟨as, h4⟩ := Dp.readsAll I ds _ its ha rv
      have hn : its.length = ds.length := SeqAt.ReadsAll.length ds its as h4
      have hmap : its.map (SeqAt.readOf s.heap) = ds := SeqAt.readsAll_map ds its as hxs h4
      have hvl := rv.length
      have hsl := sizeLine_eq
      obtain ⟨hjd, _⟩ := List.getElem?_eq_some_iff.mp hz
      have hjl : j < its.length := by omega
      have hj : j < its.toArray.size := by simpa using hjl
      have at_ : ∀ (m : Nat) (hm : m < its.toArray.size) (z' : PyData), ds[m]? = some z' → SeqAt.readOf s.heap its.toArray[m] = z' := by
        intro m hm z' hz'
        have hml : m < its.length := by simpa using hm
        rw [← hmap, List.getElem?_map, List.getElem?_eq_getElem hml] at hz'
        have e1 : SeqAt.readOf s.heap its[m] = z' := Option.some.inj (show some (SeqAt.readOf s.heap its[m]) = some z' from hz')
        simpa using e1
      refine call_meets PySem.F.slot_list_remove ⟨_, e, rfl⟩ PySem.F.entry_list_remove (PySem.F.args_list_remove_2 _ _)
        (SeqAt.list_removeAt a its.toArray n _ _ uy (fun u => PyData.eqv (SeqAt.readOf s.heap u) d) j hj ?_ ?_ (by rw [List.size_toArray]; omega)) ⟨e, SeqAt.items_eqAt (vs := its.toArray) (show ReadsAll s.heap its.toArray.toList ds as from h4) r1 hxs (SeqAt.canLay_of_shaped sd) hroom, ?_⟩
      · show PyData.eqv (SeqAt.readOf s.heap its.toArray[j]) d = true
        rw [at_ j hj z hz]
        exact hzj
      · intro m hm hmj
        have hmd : m < ds.length := by omega
        have hz' : ds[m]? = some ds[m] := List.getElem?_eq_getElem hmd
        show PyData.eqv (SeqAt.readOf s.heap its.toArray[m]) d = false
        rw [at_ m hm _ hz']
        exact hno m _ hmj hz'
      · refine ⟨.non, _, I.lset (its' := its.eraseIdx j) hH e ?_ (r.eraseIdx j) ?_, rfl, q⟩
        · show its.toArray.eraseIdxIfInBounds j = (its.eraseIdx j).toArray
          rw [List.eraseIdxIfInBounds_toArray]
        · have := List.length_eraseIdx_le vs j
          omega
theorem OwL.erase {K : PySem.W.Frag} {H : Hp} {F : Addr → Prop} : ∀ {l : List D} {xs : List V} {As : List Addr} (j : Nat), OwL K H F xs l As → ∃ A1, OwL K H F (xs.eraseIdx j) (l.eraseIdx j) A1 ∧ A1.Sublist As
  | [], xs, As, j, h => by
    simp only [OwL] at h
    obtain ⟨rfl, rfl⟩ := h
    exact ⟨[], by simp [OwL], .slnil⟩
  | d :: l, xs, As, 0, h => by
    simp only [OwL] at h
    obtain ⟨y, ys, A1, A2, rfl, rfl, h1, h2⟩ := h
    exact ⟨A2, by simpa using h2, List.sublist_append_right _ _⟩
  | d :: l, xs, As, j + 1, h => by
    simp only [OwL] at h
    obtain ⟨y, ys, A1, A2, rfl, rfl, h1, h2⟩ := h
    obtain ⟨A3, h3, h4⟩ := OwL.erase j h2
    refine ⟨A1 ++ A3, ?_, h4.append_left A1⟩
    simp only [List.eraseIdx_cons_succ, OwL]
    exact ⟨y, _, A1, A3, rfl, rfl, h1, h3⟩
def sRem (i : Nat) (o : SO) : SE := fun e => match e[i]? with
  | some (some (.lst _ _)) => (o e).bind fun b e1 => match e1[i]?, rsv e1 b with
    | some (some (.lst true l)), some y => if (SeqAt.shaped (.list (pys l)) && okEq y) = true then (match (pys l).findIdx? fun z => PyData.eqv z y.py with
        | some j => .ok .non (e1.set i (some (.lst true (l.eraseIdx j))))
        | none => .bad) else .bad
    | _, _ => .bad
  | _ => .bad
theorem px_remove {i : Nat} {x : Str} {e : Expr} {o : SO} {p apos cpos : Pos} (a : At X W j) (hN : X.N[i]? = some x) (hv : Vis X.env.scope x) (hd : (x == ("__debug__" : Str)) = false) (hcd : (x == ("__classdict__" : Str)) = false) (he : PE X e (sm X.K cv W (rA X.K) o)) (hs : notStar e = true)
    (hbase : attributeBase (.Name x p) "remove" X.env (eval (.Name x p) X.env) = eval (.Name x p) X.env)
    (hfew : ((backTo cpos (starEach [e] X.env)).all (fun x => !x.1) && (backToKw cpos (keywordEach [] X.env)).all (fun x => x.1.isSome)
      && decide ([e].length + ([] : List Keyword).length + (if ([] : List Keyword).isEmpty then 0 else 1) < 30)) = true) (hline : (apos.endLine == cpos.line) = true) :
    PE X (.Call (.Attribute (.Name x p) "remove" apos) [e] [] cpos) (sm X.K cv W (rD X.K) (sRem i o)) :=
  (pe_bm (r := rRemD X.K) PySem.F.plainAttrs_list PySem.F.slot_list_remove PySem.F.type_list_remove (mt_removeD (by have := a.hr.un; omega)) (pe_var hN hv hd hcd) (pa_cons he pa_nil (star_cons hs)) hbase hfew hline (star_cons hs)).imp fun σ H Q ⟨F0, env0, B0, w0, f0⟩ => by
    simp only [sRem] at f0
    split at f0
    · rename_i o0 l0 q0
      obtain ⟨v0, h0, ob0⟩ := env_get (i := i) (d := .lst o0 l0) w0 (by simp only [qVar, q0])
      obtain ⟨a0, xs0, rfl, g1, _⟩ := ob0.lst
      refine ⟨_, h0, .inl ⟨rfl, _, SqL.of g1⟩, ?_⟩
      refine (sm.run0 (P := rA X.K) (m := o) ⟨F0, env0, B0, w0, f0⟩).mono fun y H1 ⟨F, env, b, A, B, w, p, dd, f⟩ => ?_
      split at f
      · rename_i l dy q1 q2
        split at f
        · rename_i hc
          split at f
          · rename_i k hk
            simp only [Bool.and_eq_true] at hc
            have t : ∀ c ∈ A, H1 c ≠ none := st_A.there p
            have w6 := w.freeze dd t
            have oy := rsv_ok w6 (fun c h => .inl h) (fun c h => .inr h) p q2
            obtain ⟨v1, e1, ox⟩ := env_get (i := i) (d := .lst true l) w (by simp only [qVar, q1])
            obtain ⟨a1, xs, As, B', h1, h2, h3, h4, h5⟩ := w.focus q1
            rw [h1] at h0 e1
            cases h0
            cases e1
            rw [List.findIdx?_eq_some_iff_getElem] at hk
            obtain ⟨hk1, hk2, hk3⟩ := hk
            obtain ⟨A1, o2, sl⟩ := OwL.erase k h3
            have d0 : Dis F (a0 :: As ++ B') := dd.right.perm h4
            have d2 : Dis F (a0 :: A1 ++ B') := d0.sub ((sl.cons_cons a0).append (List.Sublist.refl B'))
            obtain ⟨B2, w2, p2⟩ := Wl.refill (len_of q1) h1 h5 h2 o2 d2
            have x : Ext [a0] H1 F (upd H1 a0 (.lst (xs.eraseIdx k))) F := Ext.wrote h2 (by simp)
            have mB : ∀ c, c ∈ a0 :: A1 ++ B' → c ∈ A ++ B := fun c h => by
              refine List.mem_append_right _ (h4.mem_iff.mpr ?_)
              rcases List.mem_append.mp h with z | z
              · rcases List.mem_cons.mp z with z | z
                · simp [z]
                · exact List.mem_append_left _ (List.mem_cons_of_mem _ (sl.subset z))
              · exact List.mem_append_right _ z
            refine ⟨a0, y, dy.py, pys l, k, (pys l)[k], xs, rfl, rfl, ox.dp (okEq_lay (d := .lst true l) hc.1), oy.dp (okEq_lay hc.2), hc.1, hc.2, List.getElem?_eq_getElem hk1, hk2, fun m z hm hz => ?_, h2, ?_⟩
            · have := hk3 m hm
              rw [List.getElem?_eq_some_iff] at hz
              obtain ⟨_, rfl⟩ := hz
              simpa using this
            · exact f .non _ F [] B2 (x.wk fun c hc => mB c (by simp at hc; simp [hc])) w2 (show Ow _ _ _ _ _ _ by simp [Ow]) w2.dis fun c hc => .inl (mB c (p2.mem_iff.mp (by simpa using hc)))
          · exact False.elim f
        · exact False.elim f
      · exact False.elim f
    · exact False.elim f0
theorem kRem (i : Nat) {x : Str} {e : Expr} {o : SO} {p apos cpos : Pos} (a : At X W j) (he : PE X e (sm X.K cv W (rA X.K) o)) (hN : X.N[i]? = some x := by rfl) (hv : Vis X.env.scope x := by first | exact .inl rfl | exact .inr (.inl rfl) | exact .inr (.inr rfl)) (hd : (x == ("__debug__" : Str)) = false := by decide +kernel) (hcd : (x == ("__classdict__" : Str)) = false := by decide +kernel) (hs : notStar e = true := by rfl)
    (hbase : attributeBase (.Name x p) "remove" X.env (eval (.Name x p) X.env) = eval (.Name x p) X.env := by rfl)
    (hfew : ((backTo cpos (starEach [e] X.env)).all (fun x => !x.1) && (backToKw cpos (keywordEach [] X.env)).all (fun x => x.1.isSome)
      && decide ([e].length + ([] : List Keyword).length + (if ([] : List Keyword).isEmpty then 0 else 1) < 30)) = true := by rfl) (hline : (apos.endLine == cpos.line) = true := by rfl) :
    PE X (.Call (.Attribute (.Name x p) "remove" apos) [e] [] cpos) (sm X.K cv W (rD X.K) (sRem i o)) := px_remove a hN hv hd hcd he hs hbase hfew hline
/-- name = [.. for .. in name2] on one line, what stands in name2 becomes shared within -/
theorem zSetLcH (i ri : Nat) (own : List (Str × Nat)) {y : Str} {py spos : Pos} {kp : Nat → Bool} {elt tg iter : Expr} {ifs : List Expr} {scope : Scope} {pos : Pos} {q : QE} {g : GT} {t : SM Bool} {el : SE} (nd : X.N.Nodup) (c : At X W j) (hi : PE X iter (qr X.K q))
    (hg : ∀ (s : Shared) (H : Hp) (C : Addr) (cl : List (Str × Addr)) (fp : List Addr), PG (X.blk s H scope (compEnvC scope cl C X.env) fp) tg (gT X.K (kpv (own.map (·.2))) g))
    (ht : ∀ (s : Shared) (H : Hp) (C : Addr) (cl : List (Str × Addr)) (fp : List Addr), At (X.blk s H scope (compEnvC scope cl C X.env) fp) WF j → PTs (X.blk s H scope (compEnvC scope cl C X.env) fp) ifs (sm X.K cv WF rB t))
    (he : ∀ (s : Shared) (H : Hp) (C : Addr) (cl : List (Str × Addr)) (fp : List Addr), At (X.blk s H scope (compEnvC scope cl C X.env) fp) WF j → PE (X.blk s H scope (compEnvC scope cl C X.env) fp) elt (sm X.K cv WF (rD X.K) el)) (hk : kp i = false := by rfl) (hy : X.N[i]? = some y := by rfl) (hyl : X.env.scope.names.lookup y = some .local := by rfl)
    (hsw : swapsWith (.ListComp elt [⟨tg, iter, ifs, 0⟩] scope pos) (some (.Name y py)) spos.line X.env = pure true := by rfl) (ok : blkC X.N X.env.scope scope own = true := by rfl) (hs : ∀ x, foldedSetIterable iter X.env x = pure x := by intro _; rfl) :
    PS X (.Assign [.Name y py] (.ListComp elt [⟨tg, iter, ifs, 0⟩] scope pos) spos) (ss X.K cv W kp (sSet i (sFrz ri (sLcH ri q g t el (own.map (·.2)))))) :=
  (ps_setLc c.calm nd hy hyl hsw (pi_list hi) (blkOk_by ok) hg (fun s H C cl fp => ht s H C cl fp c.blk) (fun s H C cl fp => he s H C cl fp c.blk) hs).imp fun D σ H h =>
    sLcH_read (sm_frz ri ((sm.runS (P := rD X.K) (m := sFrz ri (sLcH ri q g t el (own.map (·.2)))) h).mono fun v H1 ⟨F1, env1, a, A1, B1, w, p, d, f⟩ => put_read (cv := cv) (W := W) hk w p d f))
def fAddI : D → D → Option D := fI (fun _ _ => true) fun i j => .int (i + j)
def fSubI : D → D → Option D := fI (fun _ _ => true) fun i j => .int (i - j)
theorem zAugA (i : Nat) {kp : Nat → Bool} {x : Str} {e : Expr} {s : SE} {p' pos : Pos} (hN : X.N.Nodup) (he : PE X e (sm X.K cv W (rD X.K) s)) (hk : kp i = false := by rfl) (hi : X.N[i]? = some x := by rfl) (hx : L2.Loc X.env.scope x := by first | exact .inl rfl | exact .inr rfl)
    (hf : X.fn x = true ∨ X.env.scope.names.lookup x = some .local := by first | exact .inl rfl | exact .inr rfl) : PS X (.AugAssign (.Name x p') .Add e pos) (ss X.K cv W kp (sAugN i s fAddI)) :=
  qs_aug hk hN hi hx iop_add (rule_I0 fun _ _ _ _ => fz_int) he hf
theorem zAugS (i : Nat) {kp : Nat → Bool} {x : Str} {e : Expr} {s : SE} {p' pos : Pos} (hN : X.N.Nodup) (he : PE X e (sm X.K cv W (rD X.K) s)) (hk : kp i = false := by rfl) (hi : X.N[i]? = some x := by rfl) (hx : L2.Loc X.env.scope x := by first | exact .inl rfl | exact .inr rfl)
    (hf : X.fn x = true ∨ X.env.scope.names.lookup x = some .local := by first | exact .inl rfl | exact .inr rfl) : PS X (.AugAssign (.Name x p') .Sub e pos) (ss X.K cv W kp (sAugN i s fSubI)) :=
  qs_aug hk hN hi hx iop_sub (rule_I0 fun _ _ _ _ => fz_int) he hf
end
end PV
set_option Elab.async false
set_option linter.all false
set_option maxRecDepth 100000
set_option maxHeartbeats 4000000
/-! ## a, b = x, y where the pair is made and unpacked -/
namespace PVT
open PySem PySem.Spec PyProof.Rows L2
section
variable {X : Cx}
def tUnp (n : Nat) (ta : TA) (t : TGs) : TS := fun D σ H => ta σ H fun xs H1 => xs.length = n ∧ t xs σ H1 D.nx
theorem ps_unp {es vs : List Expr} {ta : TA} {t : TGs} {p1 p2 pos : Pos} {k1 k2 n : Nat} (hc : X.calm = true) (ha : PA X vs ta) (h : PGs X es t) (hn : (assignEach es X.env).length = n) (hst : (assignEach es X.env).findIdx? (·.1) = none) (hz : n ≤ sizeLine)
    (hs : swapsWithSole [.Tuple es k1 p1] (.Tuple vs k2 p2) pos.line X.env = pure false) (hw : swappedStores [.Tuple es k1 p1] (.Tuple vs k2 p2) X.env = pure none)
    (h1 : (assignEach [.Tuple es k1 p1] X.env).map (·.2) = [assign (.Tuple es k1 p1) X.env]) : PS X (.Assign [.Tuple es k1 p1] (.Tuple vs k2 p2) pos) (tUnp n ta t) := by
  refine ⟨fun pins s σ H D I hD => ?_⟩
  refine wpAny_Assign_stores (Tuple_ (thn (ha.run _ pins s σ H _ I hD) fun us s1 ⟨xs, H1, I1, r1, q1⟩ => ?_)) hs hw
  obtain ⟨hl, q1⟩ := q1
  have hul : us.length = n := by rw [← r1.length, hl]
  refine wpAny_newObj_type ?_ (by show us.toArray.size ≤ sizeLine; rw [List.size_toArray, hul]; exact hz)
  have I2 : Inv X pins σ H1 { s1 with heap := s1.heap.push { cls := .type "tuple", data := .seq us.toArray } } := I1.kept (t' := s1.toks) fun b o e => Heap.get?_push_of_some _ e
  rw [h1]
  show wpAny _ _ (assign (.Tuple es k1 p1) X.env (.ref s1.heap.objs.size)) _ _ _
  refine assign_Tuple_tuple (I.ok.hd hc) (IsTup.new s1.heap _) (by rw [hn, List.size_toArray, hul]) hst fun h' hx' => ?_
  have I3 : Inv X pins σ H1 { s1 with heap := h' } := I2.kept (h' := h') (t' := s1.toks) fun b o e => hx' b o (Nat.ne_of_lt (Heap.lt_size e)) e
  exact thn (h.run pins _ σ H1 xs _ _ I3 (by simpa using r1) q1) fun _ s2 q => q
theorem ps_parN {i j : Nat} {x y : Str} {a b : Expr} {ta : TA} {px py pt : Pos} {kt k2 pt2} {pos : Pos} (hc : X.calm = true) (hN : X.N.Nodup) (hi : X.N[i]? = some x) (hj : X.N[j]? = some y)
    (hx : Loc X.env.scope x) (hy : Loc X.env.scope y) (hfx : X.fn x = true ∨ X.env.scope.names.lookup x = some .local) (hfy : X.fn y = true ∨ X.env.scope.names.lookup y = some .local) (ha : PA X [a, b] ta)
    (hw : swappedStores [.Tuple [.Name x px, .Name y py] kt pt] (.Tuple [a, b] k2 pt2) X.env = pure none)
    (hs : swapsWithSole [.Tuple [.Name x px, .Name y py] kt pt] (.Tuple [a, b] k2 pt2) pos.line X.env = pure false)
    (h1 : (assignEach [.Tuple [.Name x px, .Name y py] kt pt] X.env).map (·.2) = [assign (.Tuple [.Name x px, .Name y py] kt pt) X.env]) (hn : (assignEach [.Name x px, .Name y py] X.env).length = 2) (hst : (assignEach [.Name x px, .Name y py] X.env).findIdx? (·.1) = none)
    (he1 : (assignEach [.Name x px, .Name y py] X.env).map (·.2) = assign (.Name x px) X.env :: (assignEach [.Name y py] X.env).map (·.2)) (he2 : (assignEach [.Name y py] X.env).map (·.2) = assign (.Name y py) X.env :: (assignEach [] X.env).map (·.2)) :
    PS X (.Assign [.Tuple [.Name x px, .Name y py] kt pt] (.Tuple [a, b] k2 pt2) pos) (tPar i j ta) := by
  have h := pgs_cons (pg_name (pos := px) hN hi hx hfx) (pgs_cons (pg_name (pos := py) hN hj hy hfy) pgs_nil he2) he1
  refine ⟨fun pins s σ H D I hD => ?_⟩
  refine wpAny_Assign_stores (Tuple_ (thn (ha.run _ pins s σ H _ I hD) fun us s1 ⟨xs, H1, I1, r1, q1⟩ => ?_)) hs hw
  obtain ⟨v, w, rfl, q1⟩ := q1
  have hul : us.length = 2 := by rw [← r1.length]; rfl
  refine wpAny_newObj_type ?_ (by show us.toArray.size ≤ sizeLine; rw [List.size_toArray, hul]; decide)
  have I2 : Inv X pins σ H1 { s1 with heap := s1.heap.push { cls := .type "tuple", data := .seq us.toArray } } := I1.kept (t' := s1.toks) fun b o e => Heap.get?_push_of_some _ e
  rw [h1]
  show wpAny _ _ (assign (.Tuple [.Name x px, .Name y py] kt pt) X.env (.ref s1.heap.objs.size)) _ _ _
  refine assign_Tuple_tuple (I.ok.hd hc) (IsTup.new s1.heap _) (by rw [hn, List.size_toArray, hul]) hst fun h' hx' => ?_
  have I3 : Inv X pins σ H1 { s1 with heap := h' } := I2.kept (h' := h') (t' := s1.toks) fun b o e => hx' b o (Nat.ne_of_lt (Heap.lt_size e)) e
  exact thn (h.run pins _ σ H1 [v, w] _ D.nx I3 (by simpa using r1) ⟨v, [w], rfl, w, [], rfl, rfl, q1⟩) fun _ s2 q => q
end
end PVT
namespace PV
open PySem PySem.Spec PyProof.Rows L2
variable [Tabs]
section
variable {X : Cx} {cv : Nat → Value} {W : WX} {j : Nat} {kp : Nat → Bool}
theorem qs_parN {i j : Nat} {a b : Expr} {os : SA} {st : Stmt} (hki : kp i = false) (hkj : kp j = false)
    (h : ∀ ta, PA X [a, b] ta → PS X st (tPar i j ta)) (ha : PA X [a, b] (sm X.K cv W (rL X.K) os)) : PS X st (ss X.K cv W kp (sPar i j os)) :=
  (h _ ha).imp fun D σ H h => (sm.runS (P := rL X.K) (m := os) h).mono fun v H1 ⟨F1, env1, as, A1, B1, w, p, d, f⟩ => by
    split at f
    · rename_i dx dy q
      split at f
      · rename_i hl
        have o := tmps_ok p q
        simp only [OwL] at o
        obtain ⟨vx, xs1, Ax, A2, rfl, rfl, ox, vy, xs2, Ay, A3, rfl, rfl, oy, rfl, rfl⟩ := o
        refine ⟨vx, vy, rfl, ?_⟩
        have d1 : Dis F1 (Ax ++ (Ay ++ B1)) := by simpa using d
        obtain ⟨B2, w2, s2⟩ := w.asg (i := i) ox (Dis.app d1.left d1.right.right fun c hc z => d1.apart c hc (List.mem_append_right _ z)) hl.1
        have d2 : Dis F1 (Ay ++ B2) := Dis.app d1.right.left w2.dis fun c hc z => (List.mem_append.mp (s2 c z)).elim (fun z => d1.apart c z (List.mem_append_left _ hc)) (d1.right.apart c hc)
        obtain ⟨B3, w3, s3⟩ := w2.asg (i := j) oy d2 (by simpa using hl.2)
        refine f _ H1 F1 B3 ((Kp.set hki).trans (Kp.set hkj)) Ext.refl w3 fun c hc => .inl ?_
        rcases List.mem_append.mp (s3 c hc) with z | z
        · simp [z]
        · rcases List.mem_append.mp (s2 c z) with z | z <;> simp [z]
      · exact False.elim f
    · exact False.elim f
theorem zParN (i j : Nat) {x y : Str} {a b : Expr} {os : SA} {px py pt : Pos} {kt k2 pt2} {pos : Pos} (nd : X.N.Nodup) (hc : X.calm = true) (ha : PA X [a, b] (sm X.K cv W (rL X.K) os)) (hki : kp i = false := by rfl) (hkj : kp j = false := by rfl) (hi : X.N[i]? = some x := by rfl) (hj : X.N[j]? = some y := by rfl)
    (hx : L2.Loc X.env.scope x := by first | exact .inl rfl | exact .inr rfl) (hy : L2.Loc X.env.scope y := by first | exact .inl rfl | exact .inr rfl)
    (hfx : X.fn x = true ∨ X.env.scope.names.lookup x = some .local := by first | exact .inl rfl | exact .inr rfl) (hfy : X.fn y = true ∨ X.env.scope.names.lookup y = some .local := by first | exact .inl rfl | exact .inr rfl)
    (hw : swappedStores [.Tuple [.Name x px, .Name y py] kt pt] (.Tuple [a, b] k2 pt2) X.env = pure none := by rfl)
    (hs : swapsWithSole [.Tuple [.Name x px, .Name y py] kt pt] (.Tuple [a, b] k2 pt2) pos.line X.env = pure false := by rfl)
    (h1 : (assignEach [.Tuple [.Name x px, .Name y py] kt pt] X.env).map (·.2) = [assign (.Tuple [.Name x px, .Name y py] kt pt) X.env] := by rfl) (hn : (assignEach [.Name x px, .Name y py] X.env).length = 2 := by rfl) (hst : (assignEach [.Name x px, .Name y py] X.env).findIdx? (·.1) = none := by rfl)
    (he1 : (assignEach [.Name x px, .Name y py] X.env).map (·.2) = assign (.Name x px) X.env :: (assignEach [.Name y py] X.env).map (·.2) := by rfl) (he2 : (assignEach [.Name y py] X.env).map (·.2) = assign (.Name y py) X.env :: (assignEach [] X.env).map (·.2) := by rfl) :
    PS X (.Assign [.Tuple [.Name x px, .Name y py] kt pt] (.Tuple [a, b] k2 pt2) pos) (ss X.K cv W kp (sPar i j os)) :=
  qs_parN hki hkj (fun ta ha => PVT.ps_parN hc nd hi hj hx hy hfx hfy ha hw hs h1 hn hst he1 he2) ha
end
end PV
set_option Elab.async false
set_option linter.all false
set_option maxRecDepth 100000
set_option maxHeartbeats 4000000
namespace PV
open PySem PySem.Spec PyProof.Rows L2 LamX
/-! ## the plain side: loops -/
theorem wipe_len (x : Env) : ∀ ws : List Nat, (wipeE x ws).length = x.length
  | [] => rfl
  | w :: ws => by simp [wipeE, wipe_len x ws]
theorem rest_len (e1 x : Env) : ∀ ws : List Nat, (restE e1 x ws).length = x.length
  | [] => rfl
  | w :: ws => by simp [restE, rest_len e1 x ws]
theorem wipe_at (x : Env) (j : Nat) : ∀ ws : List Nat, (wipeE x ws)[j]? = if j ∈ ws ∧ j < x.length then some none else x[j]?
  | [] => by simp [wipeE]
  | w :: ws => by
    simp only [wipeE]
    by_cases e : w = j
    · subst e
      by_cases q : w < x.length
      · rw [List.getElem?_set_self (by rw [wipe_len]; exact q)]; simp [q]
      · rw [List.getElem?_eq_none (by simp [wipe_len]; omega)]; simp [q]
    · rw [List.getElem?_set_ne e, wipe_at x j ws]; simp [Ne.symm e]
def keepV (e0 : Env) (v : Nat) : Option D := match e0[v]? with
    | some (some d) => if d.isFz then some d else none
    | _ => none
theorem rest_at (e1 x : Env) (j : Nat) : ∀ ws : List Nat, (restE e1 x ws)[j]? = if j ∈ ws ∧ j < x.length then some (keepV e1 j) else x[j]?
  | [] => by simp [restE]
  | w :: ws => by
    simp only [restE]
    by_cases e : w = j
    · subst e
      by_cases q : w < x.length
      · rw [List.getElem?_set_self (by rw [rest_len]; exact q)]; simp [q, keepV] <;> rfl
      · rw [List.getElem?_eq_none (by simp [rest_len]; omega)]; simp [q]
    · rw [List.getElem?_set_ne e, rest_at e1 x j ws]; simp [Ne.symm e]
theorem wipe_rest (e1 : Env) (vs : List Nat) (e2 e3 : Env) (h : wipeE e2 vs = wipeE e3 vs) : restE e1 e2 vs = restE e1 e3 vs := by
  have hl : e2.length = e3.length := by
    have := congrArg List.length h
    simpa [wipe_len] using this
  apply List.ext_getElem?
  intro j
  have q := congrArg (fun l : Env => l[j]?) h
  simp only [wipe_at] at q
  rw [rest_at, rest_at, ← hl]
  rw [← hl] at q
  by_cases z : j ∈ vs ∧ j < e2.length
  · rw [if_pos z, if_pos z]
  · rw [if_neg z, if_neg z] at q ⊢
    exact q
theorem wipe_wipe (vs : List Nat) (e : Env) : wipeE (wipeE e vs) vs = wipeE e vs := by
  apply List.ext_getElem?
  intro j
  rw [wipe_at, wipe_at, wipe_len]
  by_cases z : j ∈ vs ∧ j < e.length
  · rw [if_pos z, if_pos z]
  · rw [if_neg z]
/-- one turn of a comprehension -/
def lcStep (g : GT) (c : SM Bool) (el : SE) (d : D) (w : Env) : R (Option D) := match g d w with
  | some e1 => (c e1).bind fun b e2 => if b = true then (el e2).bind fun y e3 => .ok (some y) e3 else .ok none e2
  | none => .bad
theorem lc_step {g : GT} {c : SM Bool} {el : SE} {vs : List Nat} {d : D} {ds : List D} {e e3 : Env} {acc : List D} {o : Option D} (h : lcStep g c el d (wipeE e vs) = .ok o e3) (hl : acc.length < sizeLine) :
    lcLoop g c el vs (d :: ds) e acc = lcLoop g c el vs ds e3 (acc ++ o.toList) := by
  unfold lcStep at h
  simp only [lcLoop]
  cases h1 : g d (wipeE e vs) with
  | none => rw [h1] at h; cases h
  | some e1 =>
    rw [h1] at h
    simp only [] at h ⊢
    cases h2 : c e1 with
    | bad => rw [h2] at h; cases h
    | exc _ _ => rw [h2] at h; cases h
    | ok b e2 =>
      rw [h2] at h
      simp only [R.bind] at h ⊢
      cases b with
      | false =>
        simp only [Bool.false_eq_true, if_false] at h ⊢
        cases h; simp
      | true =>
        simp only [if_true] at h ⊢
        cases h3 : el e2 with
        | bad => rw [h3] at h; cases h
        | exc _ _ => rw [h3] at h; cases h
        | ok y e4 =>
          rw [h3] at h
          cases h
          simp only [hl, if_true, Option.toList]
theorem lc_fm {g : GT} {c : SM Bool} {el : SE} {vs : List Nat} {f : D → Option D} {W : Env} : ∀ (ds : List D), (∀ d ∈ ds, ∃ e3, lcStep g c el d W = .ok (f d) e3 ∧ wipeE e3 vs = W) → ∀ (e : Env) (acc : List D), wipeE e vs = W →
    acc.length + ds.length ≤ sizeLine → ∃ e', lcLoop g c el vs ds e acc = .ok (acc ++ ds.filterMap f) e' ∧ wipeE e' vs = W
  | [], _, e, acc, hw, _ => ⟨e, by simp [lcLoop], hw⟩
  | d :: ds, h, e, acc, hw, hl => by
    obtain ⟨e3, h1, h2⟩ := h d (by simp)
    simp only [List.length_cons] at hl
    obtain ⟨e', h3, h4⟩ := lc_fm ds (fun d hd => h d (by simp [hd])) e3 (acc ++ (f d).toList) h2 (by cases f d <;> simp <;> omega)
    refine ⟨e', ?_, h4⟩
    rw [lc_step (by rw [hw]; exact h1) (by omega), h3]
    congr 1
    cases q : f d <;> simp [List.filterMap_cons, q]
theorem sLc_fm {it : SI} {g : GT} {c : SM Bool} {el : SE} {vs : List Nat} {e e1 : Env} {ds : List D} (f : D → Option D) (hi : it e = .ok ds e1) (h : ∀ d ∈ ds, ∃ e3, lcStep g c el d (wipeE e1 vs) = .ok (f d) e3 ∧ wipeE e3 vs = wipeE e1 vs) (hl : ds.length ≤ sizeLine) :
    sLc it g c el vs e = .ok (.lst true (ds.filterMap f)) (restE e1 (wipeE e1 vs) vs) := by
  obtain ⟨e', h1, h2⟩ := lc_fm (vs := vs) ds h e1 [] rfl (by simpa using hl)
  simp only [sLc, hi, R.bind, h1, List.nil_append]
  rw [wipe_rest e1 vs e' (wipeE e1 vs) (by rw [h2, wipe_wipe])]
/-- every one gives a value -/
theorem sLc_map {it : SI} {g : GT} {c : SM Bool} {el : SE} {vs : List Nat} {e e1 : Env} {ds : List D} (f : D → D) (hi : it e = .ok ds e1) (h : ∀ d ∈ ds, ∃ e3, lcStep g c el d (wipeE e1 vs) = .ok (some (f d)) e3 ∧ wipeE e3 vs = wipeE e1 vs) (hl : ds.length ≤ sizeLine) :
    sLc it g c el vs e = .ok (.lst true (ds.map f)) (restE e1 (wipeE e1 vs) vs) := by
  rw [sLc_fm (fun d => some (f d)) hi h hl]
  simp
/-- with a state that goes on -/
theorem lc_inv {g : GT} {c : SM Bool} {el : SE} {vs : List Nat} (I : Env → Prop) (P : D → Prop) : ∀ (ds : List D), (∀ d ∈ ds, ∀ e, I e → ∃ y e3, lcStep g c el d (wipeE e vs) = .ok (some y) e3 ∧ P y ∧ I e3) → ∀ (e : Env) (acc : List D), I e →
    acc.length + ds.length ≤ sizeLine → ∃ ys e', lcLoop g c el vs ds e acc = .ok (acc ++ ys) e' ∧ ys.length = ds.length ∧ (∀ y ∈ ys, P y) ∧ I e'
  | [], _, e, acc, hw, _ => ⟨[], e, by simp [lcLoop], rfl, by simp, hw⟩
  | d :: ds, h, e, acc, hw, hl => by
    obtain ⟨y, e3, h1, h2, h3⟩ := h d (by simp) e hw
    simp only [List.length_cons] at hl
    obtain ⟨ys, e', h4, h5, h6, h7⟩ := lc_inv I P ds (fun d hd => h d (by simp [hd])) e3 (acc ++ [y]) h3 (by simp; omega)
    refine ⟨y :: ys, e', ?_, by simp [h5], by simpa using ⟨h2, h6⟩, h7⟩
    rw [lc_step h1 (by omega)]
    simp only [Option.toList]
    rw [h4]; simp
theorem sLc_inv {it : SI} {g : GT} {c : SM Bool} {el : SE} {vs : List Nat} {e e1 : Env} {ds : List D} (I : Env → Prop) (P : D → Prop) (hi : it e = .ok ds e1) (h0 : I e1) (h : ∀ d ∈ ds, ∀ e, I e → ∃ y e3, lcStep g c el d (wipeE e vs) = .ok (some y) e3 ∧ P y ∧ I e3) (hl : ds.length ≤ sizeLine) :
    ∃ ys e', sLc it g c el vs e = .ok (.lst true ys) (restE e1 e' vs) ∧ ys.length = ds.length ∧ (∀ y ∈ ys, P y) ∧ I e' := by
  obtain ⟨ys, e', h1, h2, h3, h4⟩ := lc_inv I P ds h e1 [] h0 (by simpa using hl)
  exact ⟨ys, e', by simp only [sLc, hi, R.bind, h1, List.nil_append], h2, h3, h4⟩
/-- all and any -/
def gStep (g : GT) (c : SM Bool) (el : SE) (d : D) (w : Env) : R (Option D) := lcStep g c el d w
theorem g_all {g : GT} {c : SM Bool} {el : SE} {vs : List Nat} {stop : Bool} {f : D → Bool} {W : Env} : ∀ (ds : List D), (∀ d ∈ ds, ∃ e3, lcStep g c el d W = .ok (some (.bl (f d))) e3 ∧ wipeE e3 vs = W) → ∀ (e : Env), wipeE e vs = W →
    ∃ e', gLoop stop g c el vs ds e = .ok (if ds.any (fun d => f d == stop) then stop else !stop) e' ∧ wipeE e' vs = W
  | [], _, e, hw => ⟨e, by simp [gLoop], hw⟩
  | d :: ds, h, e, hw => by
    obtain ⟨e3, h1, h2⟩ := h d (by simp)
    obtain ⟨e', h3, h4⟩ := g_all (stop := stop) ds (fun d hd => h d (by simp [hd])) e3 h2
    unfold lcStep at h1
    simp only [gLoop, hw]
    cases q1 : g d W with
    | none => rw [q1] at h1; cases h1
    | some e1 =>
      rw [q1] at h1
      simp only [] at h1 ⊢
      cases q2 : c e1 with
      | bad => rw [q2] at h1; cases h1
      | exc _ _ => rw [q2] at h1; cases h1
      | ok b e2 =>
        rw [q2] at h1
        simp only [R.bind] at h1 ⊢
        cases b with
        | false => simp only [Bool.false_eq_true, if_false] at h1; cases h1
        | true =>
          simp only [if_true] at h1 ⊢
          cases q3 : el e2 with
          | bad => rw [q3] at h1; cases h1
          | exc _ _ => rw [q3] at h1; cases h1
          | ok y e4 =>
            rw [q3] at h1
            cases h1
            simp only [List.any_cons, beq_iff_eq]
            by_cases z : f d = stop
            · simp only [z, if_true, beq_self_eq_true, Bool.true_or]
              exact ⟨_, rfl, h2⟩
            · simp only [z, if_false, show (f d == stop) = false by simpa using z, Bool.false_or]
              exact ⟨e', h3, h4⟩
theorem sGen_all {it : SI} {g : GT} {c : SM Bool} {el : SE} {vs : List Nat} {stop : Bool} {e e1 : Env} {ds : List D} (f : D → Bool) (hi : it e = .ok ds e1) (h : ∀ d ∈ ds, ∃ e3, lcStep g c el d (wipeE e1 vs) = .ok (some (.bl (f d))) e3 ∧ wipeE e3 vs = wipeE e1 vs) :
    sGen stop it g c el vs e = .ok (.bl (if ds.any (fun d => f d == stop) then stop else !stop)) (restE e1 (wipeE e1 vs) vs) := by
  obtain ⟨e', h1, h2⟩ := g_all (vs := vs) (stop := stop) ds h e1 rfl
  simp only [sGen, hi, R.bind, h1]
  rw [wipe_rest e1 vs e' (wipeE e1 vs) (by rw [h2, wipe_wipe])]
theorem sGen_allF {it : SI} {g : GT} {c : SM Bool} {el : SE} {vs : List Nat} {e e1 : Env} {ds : List D} (f : D → Bool) (hi : it e = .ok ds e1) (h : ∀ d ∈ ds, ∃ e3, lcStep g c el d (wipeE e1 vs) = .ok (some (.bl (f d))) e3 ∧ wipeE e3 vs = wipeE e1 vs) :
    sGen false it g c el vs e = .ok (.bl (ds.all f)) (restE e1 (wipeE e1 vs) vs) := by
  rw [sGen_all f hi h]
  have : ∀ l : List D, (if l.any (fun d => f d == false) then false else !false) = l.all f := by
    intro l
    induction l with
    | nil => rfl
    | cons d l ih =>
      rw [List.any_cons, List.all_cons, ← ih]
      rcases Bool.eq_false_or_eq_true (f d) with z | z <;> rw [z] <;> rfl
  rw [this]
/-- for: a state that goes on -/
theorem loop_inv {g : GT} {b : SS} (I : Env → Prop) : ∀ (ds : List D), (∀ d ∈ ds, ∀ e, I e → ∃ e1 e2, g d e = some e1 ∧ b e1 = .nx e2 ∧ I e2) → ∀ e, I e → ∃ e', loop g b ds e = .nx e' ∧ I e'
  | [], _, e, h => ⟨e, rfl, h⟩
  | d :: ds, h, e, hi => by
    obtain ⟨e1, e2, h1, h2, h3⟩ := h d (by simp) e hi
    obtain ⟨e', h4, h5⟩ := loop_inv I ds (fun d hd => h d (by simp [hd])) e2 h3
    exact ⟨e', by simp only [loop, h1, h2, h4], h5⟩
/-- .. and the turn's number -/
theorem loop_inv2 {g : GT} {b : SS} (I : List D → List D → Env → Prop) : ∀ (ds dn : List D), (∀ dn d ds e, I dn (d :: ds) e → ∃ e1 e2, g d e = some e1 ∧ b e1 = .nx e2 ∧ I (dn ++ [d]) ds e2) → ∀ e, I dn ds e → ∃ e', loop g b ds e = .nx e' ∧ I (dn ++ ds) [] e'
  | [], dn, _, e, h => ⟨e, rfl, by simpa using h⟩
  | d :: ds, dn, h, e, hi => by
    obtain ⟨e1, e2, h1, h2, h3⟩ := h dn d ds e hi
    obtain ⟨e', h4, h5⟩ := loop_inv2 I ds (dn ++ [d]) h e2 h3
    exact ⟨e', by simp only [loop, h1, h2, h4], by simpa using h5⟩
/-- for: every turn leaves the state and goes on, or one returns -/
theorem loop_chk {g : GT} {b : SS} {r : D} {Q : Env → Prop} (I : Env → Prop) (f : D → Bool) : ∀ (ds : List D), (∀ d ∈ ds, ∀ e, I e → ∃ e1, g d e = some e1 ∧ ((f d = true ∧ ∃ e2, b e1 = .nx e2 ∧ I e2) ∨ (f d = false ∧ ∃ e2, b e1 = .rt r e2 ∧ Q e2))) → ∀ e, I e →
    (ds.all f = true ∧ ∃ e', loop g b ds e = .nx e' ∧ I e') ∨ (ds.all f = false ∧ ∃ e', loop g b ds e = .rt r e' ∧ Q e')
  | [], _, e, h => .inl ⟨rfl, e, rfl, h⟩
  | d :: ds, h, e, hi => by
    obtain ⟨e1, h1, ⟨h2, e2, h3, h4⟩ | ⟨h2, e2, h3, h4⟩⟩ := h d (by simp) e hi
    · rcases loop_chk (Q := Q) I f ds (fun d hd => h d (by simp [hd])) e2 h4 with ⟨h5, e', h6, h7⟩ | ⟨h5, e', h6, h7⟩
      · exact .inl ⟨by simp [h2, h5], e', by simp only [loop, h1, h3, h6], h7⟩
      · exact .inr ⟨by simp [h2, h5], e', by simp only [loop, h1, h3, h6], h7⟩
    · exact .inr ⟨by simp [h2], e2, by simp only [loop, h1, h3], h4⟩
/-! ## evaluation -/
section
variable {α β : Type} {a : α} {e : Env} {f : α → Env → R β} {g : α → Env → RS} {c : Prop} [Decidable c] {x y : R α} {p q : RS} {t : SS} {d : D} {i n : Nat} {kp : Nat → Bool}
theorem bind_ok : (R.ok a e).bind f = f a e := rfl
theorem bind_exc : (R.exc i e : R α).bind f = .exc i e := rfl
theorem bind_ite : (if c then x else y).bind f = if c then x.bind f else y.bind f := by split <;> rfl
theorem toS_ok : (R.ok a e).toS g = g a e := rfl
theorem toS_exc : (R.exc i e : R α).toS g = .exc i e := rfl
theorem toS_ite : (if c then x else y).toS g = if c then x.toS g else y.toS g := by split <;> rfl
theorem thn_nx : (RS.nx e).thn t = t e := rfl
theorem thn_rt : (RS.rt d e).thn t = .rt d e := rfl
theorem thn_bk : (RS.bk e).thn t = .bk e := rfl
theorem thn_ct : (RS.ct e).thn t = .ct e := rfl
theorem thn_exc : (RS.exc i e).thn t = .exc i e := rfl
theorem thn_ite : (if c then p else q).thn t = if c then p.thn t else q.thn t := by split <;> rfl
theorem toF_rt : (RS.rt d e).toF kp n = .ok d (outs kp 0 n e) := rfl
theorem toF_nx : (RS.nx e).toF kp n = .ok .non (outs kp 0 n e) := rfl
theorem toF_exc : (RS.exc i e).toF kp n = .exc i (outs kp 0 n e) := rfl
theorem toF_ite : (if c then p else q).toF kp n = if c then p.toF kp n else q.toF kp n := by split <;> rfl
end
/-! ## what holds at the end -/
def R.wp {α : Type} (z : R α) (P : α → Env → Prop) : Prop := match z with
  | .ok a e => P a e
  | _ => False
def RS.wp (z : RS) (N : Env → Prop) (T : D → Env → Prop) : Prop := match z with
  | .nx e => N e
  | .rt d e => T d e
  | _ => False
def gwp (o : Option Env) (P : Env → Prop) : Prop := match o with
  | some e => P e
  | none => False
section
variable {α β : Type} {a : α} {e : Env} {P : α → Env → Prop} {P' : β → Env → Prop} {N : Env → Prop} {T : D → Env → Prop} {c : Prop} [Decidable c] {x y : R α} {p q : RS} {d : D} {o o' : Option Env}
theorem rwp_ok : (R.ok a e).wp P = P a e := rfl
theorem rwp_ite : (if c then x else y).wp P = if c then x.wp P else y.wp P := by split <;> rfl
theorem swp_nx : (RS.nx e).wp N T = N e := rfl
theorem swp_rt : (RS.rt d e).wp N T = T d e := rfl
theorem swp_ite : (if c then p else q).wp N T = if c then p.wp N T else q.wp N T := by split <;> rfl
theorem gwp_some : gwp (some e) N = N e := rfl
theorem gwp_ite : gwp (if c then o else o') N = if c then gwp o N else gwp o' N := by split <;> rfl
theorem R.wp.ex {z : R α} (h : z.wp P) : ∃ a e, z = .ok a e ∧ P a e := by
  cases z with
  | ok a e => exact ⟨a, e, rfl, h⟩
  | exc _ _ => exact False.elim h
  | bad => exact False.elim h
theorem gwp.ex {z : Option Env} (h : gwp z N) : ∃ e, z = some e ∧ N e := by
  cases z with
  | some e => exact ⟨e, rfl, h⟩
  | none => exact False.elim h
end
theorem wLc_fm {it : SI} {g : GT} {c : SM Bool} {el : SE} {vs : List Nat} {e e1 : Env} {ds : List D} (f : D → Option D) (hi : it e = .ok ds e1) (h : ∀ d ∈ ds, (lcStep g c el d (wipeE e1 vs)).wp fun o e3 => o = f d ∧ wipeE e3 vs = wipeE e1 vs) (hl : ds.length ≤ sizeLine) :
    sLc it g c el vs e = .ok (.lst true (ds.filterMap f)) (restE e1 (wipeE e1 vs) vs) := sLc_fm f hi (fun d hd => by
      obtain ⟨a, e3, h1, rfl, h2⟩ := (h d hd).ex
      exact ⟨e3, h1, h2⟩) hl
theorem wLc_map {it : SI} {g : GT} {c : SM Bool} {el : SE} {vs : List Nat} {e e1 : Env} {ds : List D} (f : D → D) (hi : it e = .ok ds e1) (h : ∀ d ∈ ds, (lcStep g c el d (wipeE e1 vs)).wp fun o e3 => o = some (f d) ∧ wipeE e3 vs = wipeE e1 vs) (hl : ds.length ≤ sizeLine) :
    sLc it g c el vs e = .ok (.lst true (ds.map f)) (restE e1 (wipeE e1 vs) vs) := sLc_map f hi (fun d hd => by
      obtain ⟨a, e3, h1, rfl, h2⟩ := (h d hd).ex
      exact ⟨e3, h1, h2⟩) hl
theorem wLc_inv {it : SI} {g : GT} {c : SM Bool} {el : SE} {vs : List Nat} {e e1 : Env} {ds : List D} (I : Env → Prop) (P : D → Prop) (hi : it e = .ok ds e1) (h0 : I e1) (h : ∀ d ∈ ds, ∀ e, I e → (lcStep g c el d (wipeE e vs)).wp fun o e3 => (∃ y, o = some y ∧ P y) ∧ I e3) (hl : ds.length ≤ sizeLine) :
    ∃ ys e', sLc it g c el vs e = .ok (.lst true ys) (restE e1 e' vs) ∧ ys.length = ds.length ∧ (∀ y ∈ ys, P y) ∧ I e' := sLc_inv I P hi h0 (fun d hd e hI => by
      obtain ⟨a, e3, h1, ⟨y, rfl, h2⟩, h3⟩ := (h d hd e hI).ex
      exact ⟨y, e3, h1, h2, h3⟩) hl
theorem wGen {it : SI} {g : GT} {c : SM Bool} {el : SE} {vs : List Nat} {e e1 : Env} {ds : List D} (f : D → Bool) (hi : it e = .ok ds e1) (h : ∀ d ∈ ds, (lcStep g c el d (wipeE e1 vs)).wp fun o e3 => o = some (.bl (f d)) ∧ wipeE e3 vs = wipeE e1 vs) :
    sGen false it g c el vs e = .ok (.bl (ds.all f)) (restE e1 (wipeE e1 vs) vs) := sGen_allF f hi fun d hd => by
      obtain ⟨a, e3, h1, rfl, h2⟩ := (h d hd).ex
      exact ⟨e3, h1, h2⟩
theorem wloop {g : GT} {b : SS} {z : RS} {ds : List D} {e : Env} (hz : loop g b ds e = z) (I : Env → Prop) (h0 : I e) (h : ∀ d ∈ ds, ∀ e, I e → gwp (g d e) fun e1 => (b e1).wp I fun _ _ => False) : ∃ e', z = .nx e' ∧ I e' := by
  obtain ⟨e', h1, h2⟩ := loop_inv I ds (fun d hd e hI => by
    obtain ⟨e1, h1, h2⟩ := (h d hd e hI).ex
    cases q : b e1 with
    | nx e2 => rw [q] at h2; exact ⟨e1, e2, h1, q, h2⟩
    | _ => rw [q] at h2; exact False.elim h2) e h0
  exact ⟨e', by rw [← hz, h1], h2⟩
theorem wloop2 {g : GT} {b : SS} {z : RS} {ds : List D} {e : Env} (hz : loop g b ds e = z) (I : List D → List D → Env → Prop) (h0 : I [] ds e) (h : ∀ dn d ds e, I dn (d :: ds) e → gwp (g d e) fun e1 => (b e1).wp (I (dn ++ [d]) ds) fun _ _ => False) : ∃ e', z = .nx e' ∧ I ds [] e' := by
  obtain ⟨e', h1, h2⟩ := loop_inv2 I ds [] (fun dn d ds e hI => by
    obtain ⟨e1, h1, h2⟩ := (h dn d ds e hI).ex
    cases q : b e1 with
    | nx e2 => rw [q] at h2; exact ⟨e1, e2, h1, q, h2⟩
    | _ => rw [q] at h2; exact False.elim h2) e h0
  exact ⟨e', by rw [← hz, h1], h2⟩
theorem wloopC {g : GT} {b : SS} {z : RS} {ds : List D} {e : Env} (hz : loop g b ds e = z) (I Q : Env → Prop) (r : D) (f : D → Bool) (h0 : I e)
    (h : ∀ d ∈ ds, ∀ e, I e → gwp (g d e) fun e1 => (b e1).wp (fun e2 => f d = true ∧ I e2) fun r' e2 => f d = false ∧ r' = r ∧ Q e2) :
    (ds.all f = true ∧ ∃ e', z = .nx e' ∧ I e') ∨ (ds.all f = false ∧ ∃ e', z = .rt r e' ∧ Q e') := by
  have := loop_chk (r := r) (Q := Q) I f ds (fun d hd e hI => by
    obtain ⟨e1, h1, h2⟩ := (h d hd e hI).ex
    refine ⟨e1, h1, ?_⟩
    cases q : b e1 with
    | nx e2 => rw [q] at h2; exact .inl ⟨h2.1, e2, q, h2.2⟩
    | rt d e2 => rw [q] at h2; obtain ⟨h2, rfl, h3⟩ := h2; exact .inr ⟨h2, e2, q, h3⟩
    | _ => rw [q] at h2; exact False.elim h2) e h0
  rcases this with ⟨h1, e', h2, h3⟩ | ⟨h1, e', h2, h3⟩
  · exact .inl ⟨h1, e', by rw [← hz, h2], h3⟩
  · exact .inr ⟨h1, e', by rw [← hz, h2], h3⟩
theorem atI_0 {α : Type} {x : α} {l : List α} : atI (x :: l) 0 = some x := by
  unfold atI ixN
  rw [if_pos (by omega), if_pos (by simp only [List.length_cons]; omega)]
  rfl
theorem atI_nat {α : Type} {l : List α} {i : Nat} (h : i < l.length) : atI l (i : Int) = some l[i] := by
  unfold atI ixN
  rw [if_pos (by omega), if_pos (by omega)]
  simp [h]
theorem atI_last {α : Type} {l : List α} {x : α} : atI (l ++ [x]) (-1) = some x := by
  unfold atI ixN
  rw [if_neg (by omega), if_pos (by simp; omega)]
  have : ((-1 : Int) + ((l ++ [x]).length : Nat)).toNat = l.length := by simp; omega
  rw [Option.bind_some, this]
  simp
theorem ixN_last {n : Nat} (h : 0 < n) : ixN n (-1) = some (n - 1) := by
  unfold ixN
  rw [if_neg (by omega), if_pos (by omega)]
  congr 1
  omega
/-! ## equality -/
def D.lay (d : D) (n : Nat) : Prop := d.py.canLay0 = true ∧ d.py.depth ≤ n
theorem okEq_of {d : D} {n : Nat} (h : d.lay n) (hn : n ≤ 64 := by decide) : okEq d = true := by
  unfold okEq SeqAt.shaped
  rw [h.1]
  simp only [Bool.true_and, decide_eq_true_eq]
  have := h.2
  omega
theorem lay_int {i : Int} {n : Nat} : (D.int i).lay n := ⟨by simp [D.py, PyData.canLay0], by simp [D.py, PyData.depth]⟩
theorem lay_bl {i : Bool} {n : Nat} : (D.bl i).lay n := ⟨by simp [D.py, PyData.canLay0], by simp [D.py, PyData.depth]⟩
theorem lay_non {n : Nat} : D.non.lay n := ⟨by simp [D.py, PyData.canLay0], by simp [D.py, PyData.depth]⟩
theorem lay_all {l : List D} {n : Nat} (h : ∀ d ∈ l, d.lay n) : PyData.canLayAll0 (pys l) = true ∧ PyData.depthAll (pys l) ≤ n := by
  induction l with
  | nil => simp [pys, PyData.canLayAll0, PyData.depthAll]
  | cons d l ih =>
    have h1 := h d (by simp)
    have h2 := ih fun d hd => h d (by simp [hd])
    simp only [pys, PyData.canLayAll0, PyData.depthAll]
    exact ⟨by rw [h1.1, h2.1]; rfl, by have := h1.2; omega⟩
theorem lay_tup {l : List D} {n : Nat} (h : ∀ d ∈ l, d.lay n) : (D.tup l).lay (n + 1) := by
  have := lay_all h
  exact ⟨by simp [D.py, PyData.canLay0, this.1], by simp [D.py, PyData.depth, this.2]⟩
theorem lay_lst {o : Bool} {l : List D} {n : Nat} (h : ∀ d ∈ l, d.lay n) : (D.lst o l).lay (n + 1) := by
  have := lay_all h
  exact ⟨by simp [D.py, PyData.canLay0, this.1], by simp [D.py, PyData.depth, this.2]⟩
theorem lay_ints {ns : List Int} {n : Nat} : ∀ d ∈ ns.map D.int, d.lay n := by
  intro d hd
  obtain ⟨i, _, rfl⟩ := List.mem_map.mp hd
  exact lay_int
theorem fEq_int {i j : Int} : fEq (.int i) (.int j) = some (.bl (decide (i = j))) := by
  unfold fEq
  rw [okEq_of (lay_int (n := 0)), okEq_of (lay_int (n := 0))]
  simp [D.py, PyData.eqv]; rfl
theorem fNe_int {i j : Int} : fNe (.int i) (.int j) = some (.bl (!decide (i = j))) := by
  unfold fNe
  rw [okEq_of (lay_int (n := 0)), okEq_of (lay_int (n := 0))]
  simp [D.py, PyData.eqv]; rfl
theorem fEq_bl {i j : Bool} : fEq (.bl i) (.bl j) = some (.bl (i == j)) := by
  unfold fEq
  rw [okEq_of (lay_bl (n := 0)), okEq_of (lay_bl (n := 0))]
  simp [D.py, PyData.eqv]
theorem fNe_bl {i j : Bool} : fNe (.bl i) (.bl j) = some (.bl (!(i == j))) := by
  unfold fNe
  rw [okEq_of (lay_bl (n := 0)), okEq_of (lay_bl (n := 0))]
  simp [D.py, PyData.eqv]
theorem eqv_nilL {l : List D} : PyData.eqvAll (pys l) [] = l.isEmpty := by cases l <;> simp [pys, PyData.eqvAll]
theorem fEq_nil {o o' : Bool} {l : List D} (h : ∀ d ∈ l, d.lay 60) : fEq (.lst o l) (.lst o' []) = some (.bl l.isEmpty) := by
  unfold fEq
  rw [okEq_of (lay_lst h), okEq_of (lay_lst (n := 0) (by simp))]
  simp [D.py, PyData.eqv, pys, eqv_nilL]
theorem fNe_nil {o o' : Bool} {l : List D} (h : ∀ d ∈ l, d.lay 60) : fNe (.lst o l) (.lst o' []) = some (.bl (!l.isEmpty)) := by
  unfold fNe
  rw [okEq_of (lay_lst h), okEq_of (lay_lst (n := 0) (by simp))]
  simp [D.py, PyData.eqv, pys, eqv_nilL]
theorem fEq_nn {o o' : Bool} : fEq (.lst o []) (.lst o' []) = some (.bl true) := fEq_nil (by simp)
theorem fNe_nn {o o' : Bool} : fNe (.lst o []) (.lst o' []) = some (.bl false) := fNe_nil (by simp)
theorem nat0 : ((0 : Nat) : Int) = 0 := rfl
theorem nat1 : ((1 : Nat) : Int) = 1 := rfl
theorem size_eq : sizeLine = 16777216 := rfl
theorem size_le {n : Nat} (h : n ≤ 1000) : (n ≤ sizeLine) = True := eq_true (by rw [size_eq]; omega)
theorem size_lt {n : Nat} (h : n ≤ 1000) : (n < sizeLine) = True := eq_true (by rw [size_eq]; omega)
theorem ok62_nat {n : Nat} (h : n ≤ 1000000) : ok62 (n : Int) = true := decide_eq_true (by omega)
theorem fRg1_nat {n : Nat} (h : n ≤ 1000000) : fRg1 [.int (n : Int)] = some (rngD 0 n) := by
  unfold fRg1
  simp only []
  rw [if_pos (ok62_nat h)]
  rfl
theorem fRg1_lit {j : Int} (h0 : 0 ≤ j) (h : j ≤ 1000000) : fRg1 [.int j] = some (rngD 0 j.toNat) := by
  have e : j = (j.toNat : Int) := by omega
  rw [e, fRg1_nat (by omega)]
  rfl
theorem rngMem {lo : Int} {n : Nat} {d : D} (h : d ∈ rngD lo n) : ∃ j : Nat, j < n ∧ d = .int (lo + (j : Int)) := by
  obtain ⟨j, h1, rfl⟩ := List.mem_map.mp h
  exact ⟨j, List.mem_range.mp h1, rfl⟩
theorem rngMap {lo : Int} {n : Nat} {f : D → D} : (rngD lo n).map f = (List.range n).map fun j : Nat => f (.int (lo + (j : Int))) := by simp [rngD, Function.comp]
theorem rngLen {lo : Int} {n : Nat} : (rngD lo n).length = n := by simp [rngD]
theorem wloopR {g : GT} {b : SS} {z : RS} {lo : Int} {n : Nat} {e : Env} (hz : loop g b (rngD lo n) e = z) (I : Nat → Env → Prop) (h0 : I 0 e) (h : ∀ j, j < n → ∀ e, I j e → gwp (g (.int (lo + (j : Int))) e) fun e1 => (b e1).wp (I (j + 1)) fun _ _ => False) : ∃ e', z = .nx e' ∧ I n e' := by
  have key : ∀ m s e, s + m = n → I s e → ∃ e', loop g b ((List.range' s m).map fun i : Nat => D.int (lo + (i : Int))) e = .nx e' ∧ I n e' := by
    intro m
    induction m with
    | zero => intro s e hs hI; exact ⟨e, rfl, by rw [← hs]; exact hI⟩
    | succ m ih =>
      intro s e hs hI
      obtain ⟨e1, h1, h2⟩ := (h s (by omega) e hI).ex
      cases q : b e1 with
      | nx e2 =>
        rw [q] at h2
        obtain ⟨e', h3, h4⟩ := ih (s + 1) e2 (by omega) h2
        exact ⟨e', by simp only [List.range'_succ, List.map_cons, loop, h1, q, h3], h4⟩
      | _ => rw [q] at h2; exact False.elim h2
  obtain ⟨e', h1, h2⟩ := key n 0 e (by omega) h0
  refine ⟨e', ?_, h2⟩
  rw [← hz, ← h1]
  unfold rngD
  rw [List.range_eq_range']
theorem mulSmall {i j : Int} (h : i.natAbs < 1024) : mulOk i j = true := by
  unfold mulOk
  have : Builtin.Int.intBits i ≤ shortFactorBits := by
    unfold Builtin.Int.intBits shortFactorBits
    split
    · omega
    · have : i.natAbs.log2 < 10 := (Nat.log2_lt (by rename_i q; simp at q; omega)).mpr (by omega)
      omega
  rw [show decide (Builtin.Int.intBits i > shortFactorBits) = false from decide_eq_false (by omega)]
  rfl
theorem mulSmallR {i j : Int} (h : j.natAbs < 1048576) : mulOk i j = true := by
  unfold mulOk
  have : Builtin.Int.intBits j ≤ shortFactorBits := by
    unfold Builtin.Int.intBits shortFactorBits
    split
    · omega
    · have : j.natAbs.log2 < 20 := (Nat.log2_lt (by rename_i q; simp at q; omega)).mpr (by omega)
      omega
  rw [show decide (Builtin.Int.intBits j > shortFactorBits) = false from decide_eq_false (by omega), Bool.and_false]
  rfl
theorem divSmall {i j : Int} (h0 : j ≠ 0) (h : j.natAbs < 1048576) : divOk i j = true := by
  unfold divOk Builtin.divisionGoesByPylong
  have h1 : (j == 0) = false := by simpa using h0
  have : j.natAbs.log2 < 20 := (Nat.log2_lt (by omega)).mpr (by omega)
  simp only [h1, h0, ne_eq, not_false_eq_true, decide_true, Bool.true_and]
  have h2 : j.natAbs.log2 / 30 = 0 := Nat.div_eq_of_lt (by omega)
  simp [h2]
/-- for over an owned list whose items change -/
theorem wloopB {i j : Nat} {b : SS} {f : D → D} {E : Env} (hj : j < E.length) (hE : E.set j none = E) : ∀ (ds dn : List D), (∀ d ∈ ds, (b (E.set j (some d))).wp (fun e2 => e2 = E.set j (some (f d))) fun _ _ => False) → loopB i j b ds dn E = .nx (E.set i (some (.lst true (dn ++ ds.map f))))
  | [], dn, _ => by simp [loopB, hE]
  | d :: ds, dn, h => by
    have h1 := h d (by simp)
    have ih := wloopB (i := i) hj hE ds (dn ++ [f d]) fun d hd => h d (by simp [hd])
    simp only [loopB, hj, if_true]
    cases q : b (E.set j (some d)) with
    | nx e2 =>
      rw [q] at h1
      have h1 : e2 = E.set j (some (f d)) := h1
      subst h1
      have e1 : (E.set j (some (f d)))[j]? = some (some (f d)) := by simp [hj]
      simp only [e1, List.set_set, hE]
      rw [ih]
      simp
    | _ => rw [q] at h1; exact False.elim h1
theorem wLcH {i : Nat} {q : QE} {g : GT} {c : SM Bool} {el : SE} {vs : List Nat} {e : Env} {d : D} {o : Bool} {l : List D} (f : D → D) (h1 : e[i]? = some (some d)) (h2 : q (keepI i e) = some (.lst o l)) (h3 : isFzs l = true)
    (h : ∀ x ∈ l, (lcStep g c el x (wipeE (e.set i none) vs)).wp fun o e3 => o = some (f x) ∧ wipeE e3 vs = wipeE (e.set i none) vs) (hl : l.length ≤ sizeLine) :
    sLcH i q g c el vs e = .ok (.lst true (l.map f)) ((restE (e.set i none) (wipeE (e.set i none) vs) vs).set i (some d)) := by
  obtain ⟨e', h4, h5⟩ := lc_fm (g := g) (c := c) (el := el) (vs := vs) (f := fun x => some (f x)) (W := wipeE (e.set i none) vs) l (fun x hx => by
    obtain ⟨a, e3, q1, rfl, q2⟩ := (h x hx).ex
    exact ⟨e3, q1, q2⟩) (e.set i none) [] rfl (by simpa using hl)
  simp only [sLcH, h1, h2, h3, if_true, h4, R.bind, List.nil_append]
  rw [wipe_rest (e.set i none) vs e' (wipeE (e.set i none) vs) (by rw [h5, wipe_wipe])]
  simp
theorem popL_snoc (l : List D) (d : D) : popL (l ++ [d]) = some (l, d) := by simp [popL]
theorem fzs_ints (ns : List Int) : fzs (ns.map D.int) = ns.map D.int := by
  induction ns with
  | nil => rfl
  | cons n ns ih => simp [fzs, D.fz, ih]
theorem isFzs_ints (ns : List Int) : isFzs (ns.map D.int) = true := by
  induction ns with
  | nil => rfl
  | cons n ns ih => simp [isFzs, D.isFz, ih]
theorem isFzs_all (l : List D) : isFzs l = l.all D.isFz := by
  induction l with
  | nil => rfl
  | cons d l ih => simp [isFzs, ih]
theorem intsOf_ints (ns : List Int) : intsOf (ns.map D.int) = some ns := by
  induction ns with
  | nil => rfl
  | cons n ns ih => simp [intsOf, ih]
end PV
set_option Elab.async false
set_option linter.all false
set_option maxRecDepth 100000
set_option maxHeartbeats 4000000
namespace PV
open PySem PySem.Spec L2
theorem g_ints {g : GT} {c : SM Bool} {el : SE} {vs : List Nat} {f : D → Option Int} {W : Env} : ∀ (ds : List D), (∀ d ∈ ds, ∃ e3, lcStep g c el d W = .ok ((f d).map D.int) e3 ∧ wipeE e3 vs = W) → ∀ (e : Env), wipeE e vs = W →
    ∃ e', gInts g c el vs ds e = .ok (ds.filterMap f) e' ∧ wipeE e' vs = W
  | [], _, e, hw => ⟨e, by simp [gInts], hw⟩
  | d :: ds, h, e, hw => by
    obtain ⟨e3, h1, h2⟩ := h d (by simp)
    obtain ⟨e', h3, h4⟩ := g_ints ds (fun d hd => h d (by simp [hd])) e3 h2
    unfold lcStep at h1
    simp only [gInts, hw]
    cases q1 : g d W with
    | none => rw [q1] at h1; cases h1
    | some e1 =>
      rw [q1] at h1
      simp only [] at h1 ⊢
      cases q2 : c e1 with
      | bad => rw [q2] at h1; cases h1
      | exc _ _ => rw [q2] at h1; cases h1
      | ok b e2 =>
        rw [q2] at h1
        simp only [R.bind] at h1 ⊢
        cases b with
        | false =>
          simp only [Bool.false_eq_true, if_false, R.ok.injEq] at h1 ⊢
          obtain ⟨h5, rfl⟩ := h1
          cases hf : f d with
          | none =>
            rw [List.filterMap_cons, hf]
            exact ⟨e', h3, h4⟩
          | some v => rw [hf] at h5; cases h5
        | true =>
          simp only [if_true] at h1 ⊢
          cases q3 : el e2 with
          | bad => rw [q3] at h1; cases h1
          | exc _ _ => rw [q3] at h1; cases h1
          | ok y e4 =>
            rw [q3] at h1
            simp only [R.ok.injEq] at h1
            obtain ⟨h5, rfl⟩ := h1
            cases hf : f d with
            | none => rw [hf] at h5; cases h5
            | some v =>
              rw [hf] at h5
              simp only [Option.map_some, Option.some.injEq] at h5
              subst h5
              simp only [h3]
              rw [List.filterMap_cons, hf]
              exact ⟨e', rfl, h4⟩
theorem wGmax {it : SI} {g : GT} {c : SM Bool} {el : SE} {vs : List Nat} {e e1 : Env} {ds : List D} (f : D → Option Int) (hi : it e = .ok ds e1) (h : ∀ d ∈ ds, (lcStep g c el d (wipeE e1 vs)).wp fun o e3 => o = (f d).map D.int ∧ wipeE e3 vs = wipeE e1 vs)
    {y : Int} {ys : List Int} (hy : ds.filterMap f = y :: ys) : sGmax it g c el vs e = .ok (.int (maxI y ys)) (restE e1 (wipeE e1 vs) vs) := by
  obtain ⟨e', h1, h2⟩ := g_ints (vs := vs) ds (fun d hd => by
    obtain ⟨a, e3, h1, rfl, h2⟩ := (h d hd).ex
    exact ⟨e3, h1, h2⟩) e1 rfl
  simp only [sGmax, hi, R.bind, h1, hy]
  rw [wipe_rest e1 vs e' (wipeE e1 vs) (by rw [h2, wipe_wipe])]
end PV
set_option Elab.async false
set_option linter.all false
set_option maxRecDepth 100000
set_option maxHeartbeats 4000000
namespace HotX
open PySem PySem.Spec PyProof.Rows
section
variable {prog : Program} {w : World} {A : Around} {E : Value → Shared → Prop} {s : Shared}
theorem next_list_end_hot {it l x1 : Addr} {i : Nat} {items} {Q : Option Value → Shared → Prop} (hot : HotAt A x1 s.heap) (hne : x1 ≠ it)
    (hit : s.heap.IsListIter it l i) (hl : s.heap.IsList l items) (hx : items[i]? = none)
    (hQ : ∀ h', Heap.ExtBut it s.heap h' → Q none { s with heap := h' }) : wpAny (model prog w) A (pyNext (.ref it)) Q E s := by
  obtain ⟨o, ho, hc, hd⟩ := id hit
  obtain ⟨ol, hol, _, nl, hdl⟩ := hl
  obtain ⟨hh, o1, vs1, h1, d1, c1⟩ := hot
  unfold pyNext
  refine wpAny_bind (wpAny_attempt (wpAny_callSpecial?_slot (name := Str.ofString "__next__") hit.typeIs slot_listiter_next
    (wpAny_call_entry slot_listiter_next hit.typeIs entry_listiter_next ?_ (args_listiter_next _))))
  show wpAny _ _ (field (.ref it) 0 >>= _) _ _ s
  refine wpAny_bind (wpAny_field ho hd (x := .ref l) rfl ?_)
  show wpAny _ _ (if (Value.ref l == Value.none) = true then _ else _) _ _ s
  rw [if_neg (show ¬ ((Value.ref l == Value.none) = true) from Bool.false_ne_true)]
  show wpAny _ _ (field (.ref it) 1 >>= _) _ _ s
  refine wpAny_bind (wpAny_field ho hd (x := .int i 0) rfl ?_)
  show wpAny _ _ (seqItems? (.ref l) >>= _) _ _ s
  refine wpAny_bind (wpAny_seqItems hol hdl ?_)
  simp only [Int.toNat_natCast, hx]
  refine wpAny_bind (wpAny_rule (wpAny_bind (wpAny_setField ho hd (by simp) ?_)))
  show wpAny _ _ (newExc (.type "StopIteration") [] >>= _) _ _ _
  refine wpAny_bind ?_
  simp only [newExc, newTuple]
  refine wpAny_bind (wpAny_newObj_type ?_ (by size_fits))
  refine wpAny_bind (m := firstArgMember _ _) (wpAny_of_eq (a := Value.none) (by first | rfl | (simp only [firstArgMember]; rfl)) ?_)
  refine wpAny_newObj_type ?_ (by size_fits)
  have hu := (Heap.get?_update_other s.heap (a := it) (b := x1) (Obj.mapFields fun z => z.setIfInBounds 0 Value.none) (Ne.symm hne)).trans h1
  refine raiseNew_hot ⟨hh, o1, vs1, Heap.get?_push_of_some _ (Heap.get?_push_of_some _ hu), d1, c1⟩ (Nat.ne_of_lt (Heap.lt_size (Heap.get?_push_of_some _ hu))) (Heap.get?_push_size _ rfl) rfl (by first | (simp; done) | (simp; omega) | (simp only [Array.size_append]; simp; omega)) ?_
  refine wpAny_bind (wpAny_isInstance (T := "StopIteration") (b := true) ⟨_, Heap.get?_update_self _ (Heap.get?_push_size _ rfl) rfl, rfl⟩ isSubtype_stop ?_)
  refine wpAny_pure (hQ _ fun b o hb e => ?_)
  have e2 : (s.heap.update it (Obj.mapFields fun z => z.setIfInBounds 0 Value.none)).get? b = some o := (Heap.get?_update_other s.heap _ (Ne.symm hb)).trans e
  rw [Heap.get?_update_other _ _ (Nat.ne_of_gt (Heap.lt_size (Heap.get?_push_of_some _ e2)))]
  exact Heap.get?_push_of_some _ (Heap.get?_push_of_some _ e2)
theorem next_tuple_end_hot {it t x1 : Addr} {i : Nat} {items} {Q : Option Value → Shared → Prop} (hot : HotAt A x1 s.heap) (hne : x1 ≠ it)
    (hit : IsTupIter s.heap it t i) (ht : IsTup s.heap t items) (hx : items[i]? = none)
    (hQ : ∀ h', Heap.ExtBut it s.heap h' → Q none { s with heap := h' }) : wpAny (model prog w) A (pyNext (.ref it)) Q E s := by
  obtain ⟨o, ho, hc, hd⟩ := id hit
  obtain ⟨ol, hol, _, nl, hdl⟩ := ht
  obtain ⟨hh, o1, vs1, h1, d1, c1⟩ := hot
  unfold pyNext
  refine wpAny_bind (wpAny_attempt (wpAny_callSpecial?_slot (name := Str.ofString "__next__") hit.typeIs slot_tupleiter_next
    (wpAny_call_entry slot_tupleiter_next hit.typeIs entry_tupleiter_next ?_ (args_tupleiter_next _))))
  show wpAny _ _ (field (.ref it) 0 >>= _) _ _ s
  refine wpAny_bind (wpAny_field ho hd (x := .ref t) rfl ?_)
  show wpAny _ _ (if (Value.ref t == Value.none) = true then _ else _) _ _ s
  rw [if_neg (show ¬ ((Value.ref t == Value.none) = true) from Bool.false_ne_true)]
  show wpAny _ _ (field (.ref it) 1 >>= _) _ _ s
  refine wpAny_bind (wpAny_field ho hd (x := .int i 0) rfl ?_)
  show wpAny _ _ (seqItems? (.ref t) >>= _) _ _ s
  refine wpAny_bind (wpAny_seqItems hol hdl ?_)
  simp only [Int.toNat_natCast, hx]
  refine wpAny_bind (wpAny_rule (wpAny_bind (wpAny_setField ho hd (by simp) ?_)))
  show wpAny _ _ (newExc (.type "StopIteration") [] >>= _) _ _ _
  refine wpAny_bind ?_
  simp only [newExc, newTuple]
  refine wpAny_bind (wpAny_newObj_type ?_ (by size_fits))
  refine wpAny_bind (m := firstArgMember _ _) (wpAny_of_eq (a := Value.none) (by first | rfl | (simp only [firstArgMember]; rfl)) ?_)
  refine wpAny_newObj_type ?_ (by size_fits)
  have hu := (Heap.get?_update_other s.heap (a := it) (b := x1) (Obj.mapFields fun z => z.setIfInBounds 0 Value.none) (Ne.symm hne)).trans h1
  refine raiseNew_hot ⟨hh, o1, vs1, Heap.get?_push_of_some _ (Heap.get?_push_of_some _ hu), d1, c1⟩ (Nat.ne_of_lt (Heap.lt_size (Heap.get?_push_of_some _ hu))) (Heap.get?_push_size _ rfl) rfl (by first | (simp; done) | (simp; omega) | (simp only [Array.size_append]; simp; omega)) ?_
  refine wpAny_bind (wpAny_isInstance (T := "StopIteration") (b := true) ⟨_, Heap.get?_update_self _ (Heap.get?_push_size _ rfl) rfl, rfl⟩ isSubtype_stop ?_)
  refine wpAny_pure (hQ _ fun b o hb e => ?_)
  have e2 : (s.heap.update it (Obj.mapFields fun z => z.setIfInBounds 0 Value.none)).get? b = some o := (Heap.get?_update_other s.heap _ (Ne.symm hb)).trans e
  rw [Heap.get?_update_other _ _ (Nat.ne_of_gt (Heap.lt_size (Heap.get?_push_of_some _ e2)))]
  exact Heap.get?_push_of_some _ (Heap.get?_push_of_some _ e2)
theorem HotAt.kept {x1 : Addr} {h h' : Heap} (c : HotAt A x1 h) (k : ∀ o, h.get? x1 = some o → h'.get? x1 = some o) : HotAt A x1 h' := let ⟨hh, o, vs, e, d, z⟩ := c; ⟨hh, o, vs, k o e, d, z⟩
theorem HotAt.lt {x1 : Addr} {h : Heap} (c : HotAt A x1 h) : x1 < h.objs.size := let ⟨_, o, vs, e, _, _⟩ := c; Heap.lt_size e
theorem unpackItems_tuple_hot {t x1 : Addr} {items : Array Value} {Q : List Value → Shared → Prop} (hot : HotAt A x1 s.heap) (ht : IsTup s.heap t items)
    (hQ : ∀ h', Heap.ExtBut s.heap.objs.size s.heap h' → Q items.toList { s with heap := h' }) : wpAny (model prog w) A (unpackItems (.ref t) items.size none) Q E s := by
  have hlt : t ≠ s.heap.objs.size := by obtain ⟨o, ho, _⟩ := ht; exact Nat.ne_of_lt (Heap.lt_size ho)
  unfold unpackItems
  refine wpAny_bind ?_
  · unfold notIterableAtAll
    refine wpAny_bind (wpAny_specialOf ht.typeIs slot_tuple_iter.lookup ?_)
    refine wpAny_pure ?_
    simp only [Bool.false_eq_true, if_false]
    refine wpAny_bind (wpAny_holding (iter_tuple ht ?_))
    refine wpAny_bind (wpAny_holding (draw_tuple hlt items.size 0 _ _ ⟨_, Heap.get?_push_size _ rfl, rfl, rfl⟩ (ht.push _) (by omega) fun h₁ hit₁ hs₁ => ?_))
    have hall : List.take items.size (List.drop 0 items.toList) = items.toList := by
      rw [List.drop_zero]; exact List.take_of_length_le (by simp)
    rw [hall]
    rw [if_neg (by simp)]
    have ht₁ : IsTup h₁ t items := (ht.push _).extBut hs₁.extBut hlt
    have nx : x1 ≠ s.heap.objs.size := Nat.ne_of_lt hot.lt
    refine wpAny_bind (wpAny_holding (next_tuple_end_hot (hot.kept fun o e => hs₁.extBut x1 o nx (Heap.get?_push_of_some _ e)) nx hit₁ ht₁ (by simp) fun h₂ he₂ => ?_))
    simp only [Option.isSome_none, Bool.false_eq_true, if_false]
    refine wpAny_pure (hQ h₂ fun b o hb e => he₂ b o hb (hs₁.extBut b o hb (Heap.get?_push_of_some _ e)))
theorem assign_Tuple_tuple_hot {env : Env} {elts : List Expr} {x1} {pos : Pos} {t y1 : Addr} {items : Array Value} {Q : Unit → Shared → Prop} (hot : HotAt A y1 s.heap) (ht : IsTup s.heap t items)
    (hn : (assignEach elts env).length = items.size) (hstar : (assignEach elts env).findIdx? (·.1) = none)
    (h : ∀ h', Heap.ExtBut s.heap.objs.size s.heap h' → wpAny (model prog w) A (assignInOrder ((assignEach elts env).map (·.2)) items.toList) Q E { s with heap := h' }) :
    wpAny (model prog w) A (assign (.Tuple elts x1 pos) env (.ref t)) Q E s := by
  rw [assign_Tuple]
  refine wpAny_bind (wpAny_standAt ?_)
  unfold unpack
  rw [hn, hstar]
  exact wpAny_bind (wpAny_holding (unpackItems_tuple_hot hot ht h))
end
end HotX
namespace L2H
open PySem PySem.Spec PyProof.Rows L2 HotX
theorem turn_listH {P : Program} {w : World} {K : PySem.W.Frag} {tg : Expr} (a it : Addr) : TurnH P w K tg (Itl K a) [it] it (fun i h => h.IsListIter it a i) where
  mem := by simp
  obj := (turn_list (P := P) (w := w) (K := K) (tg := tg) a it).obj
  keep := (turn_list (P := P) (w := w) (K := K) (tg := tg) a it).keep
  item := by
    intro X hP hw hK hc i pins s σ H E I hf st hg
    subst hP hw hK
    obtain ⟨xs, x, hq, hx⟩ := hg
    obtain ⟨its, rv, p, hz⟩ := I.list hq
    obtain ⟨u, hu, ru⟩ := rv.get hx
    obtain ⟨f0, f1, f2, f3, f4, f5⟩ := hf it (by simp)
    refine wpAny_pyNext_list_item st p.isList (x := u) (by simpa using hu) fun h' st' sb => ?_
    have I1 : Inv X pins σ H { s with heap := h' } := I.turned (t' := s.toks) (fun b o hb e => (sb.2 b hb).trans e) f0 f1 f3 f4 f5
    obtain ⟨o, e, c, d⟩ := id st'
    exact ⟨u, rfl, go_of (s := { s with heap := h' }) e c d (by decide) ⟨x, H, I1, ru, ⟨rfl, fun ys hy => by rw [I.list_inj hy hq]; exact hx⟩, st', fun b hb => (hf b hb).1⟩⟩
  done := by
    intro X hP hw hK hc i pins s σ H E I hf st hg
    subst hP hw hK
    obtain ⟨xs, hq, hx⟩ := hg
    obtain ⟨its, rv, p, hz⟩ := I.list hq
    obtain ⟨f0, f1, f2, f3, f4, f5⟩ := hf it (by simp)
    have hl := rv.length
    obtain ⟨pp, ⟨hh, v1, e1, c1⟩, hp⟩ := hc
    have P1 := I.pin pp (List.mem_append_left _ hp)
    exact next_list_end_hot ⟨hh, pp.2, v1, P1.1, e1, c1⟩ (f5 pp (List.mem_append_left _ hp)) st p.isList (by simp; omega) fun h' eb => ⟨rfl, I.turned (t' := s.toks) (fun b o hb e => eb b o hb e) f0 f1 f3 f4 f5⟩
  self := fun _ _ _ _ _ st h => wpAny_pyIter_listiter st h
section
variable {X : Cx} {tg : Expr}
theorem pi_listH {l : Expr} {tl : TE} (hl : PE X l tl) : PIH X tg l (iList X.K tl) := by
  refine ⟨fun pins s σ H R I h => ?_⟩
  refine thn (hl.run pins s σ H _ I h) fun v s1 ⟨x, H1, I1, r1, q1⟩ => ?_
  obtain ⟨a, e, ⟨xs, hq⟩, q⟩ := q1
  subst e
  cases r1
  obtain ⟨its, rv, p, hz⟩ := I1.list hq
  refine wpAny_pyIter_list p.isList ?_
  refine ⟨s1.heap.objs.size, [s1.heap.objs.size], _, _, H1, rfl, I1.kept (t' := s1.toks) fun b o e => Heap.get?_push_of_some _ e, turn_listH a _, ⟨_, Heap.get?_push_size _ rfl, rfl, rfl⟩, fun b hb => ?_, q⟩
  have e : b = s1.heap.objs.size := by simpa using hb
  subst e
  exact I1.fpOk (Nat.le_refl _) (I1.hok.fresh (Nat.le_refl _))
theorem pg_tupH {es : List Expr} {k : Nat} {t : TGs} {n : Nat} {pos : Pos} (hc : HotC X) (h : PGs X es t)
    (hn : (assignEach es X.env).length = n := by rfl) (hst : (assignEach es X.env).findIdx? (·.1) = none := by rfl) : PG X (.Tuple es k pos) (gTup X.K n t) := by
  refine ⟨fun pins s σ H v u Q I r hw => ?_⟩
  obtain ⟨a, xs, e1, hq, hl, hw⟩ := hw
  subst e1
  cases r
  obtain ⟨its, rv, ht, hz⟩ := I.tuple hq
  obtain ⟨x1, hot⟩ := hc.at I
  refine assign_Tuple_tuple_hot hot ht (by simp [hn, ← hl, rv.length]) hst fun h' hx => ?_
  have I1 : Inv X pins σ H { s with heap := h' } := I.kept (t' := s.toks) fun b o e => hx b o (Nat.ne_of_lt (Heap.lt_size e)) e
  exact h.run pins _ σ H xs _ Q I1 (by simpa using rv) hw
end
end L2H
set_option Elab.async false
set_option linter.all false
set_option maxRecDepth 100000
set_option maxHeartbeats 4000000
namespace L2H
open PySem PySem.Spec PyProof.Rows L2 HotX
/-- a comprehension's block, the handled exception pinned -/
abbrev blkH (X : Cx) (p : Addr × Obj) (s : Shared) (H : Hp) (scope : Scope) (cenv : Env) (fp : List Addr) : Cx := { X.blk s H scope cenv fp with pn := [p] }
theorem blkH_of {X : Cx} {p : Addr × Obj} {s0 s : Shared} {H0 H : Hp} {scope : Scope} {cenv : Env} {fp : List Addr} {σ : St} (I : Inv (X.blk s0 H0 scope cenv fp) [] σ H s)
    (hp : s.heap.get? p.1 = some p.2 ∧ H p.1 = none ∧ p.1 ≠ cenv.locals ∧ p.1 ∉ frs X.stack ∧ ∀ v, p.2.data ≠ .cell v) : Inv (blkH X p s0 H0 scope cenv fp) [] σ H s :=
  have ok := I.ok
  ⟨⟨ok.mod, ok.kind, ok.glob, ok.blt, ok.above, ok.inj, ok.has, ok.cab, ok.hd, ok.frames, ok.stk, ok.exf, ok.bs, ok.bsz, ok.noex, ok.exfs, ok.funs, ok.frf⟩,
    I.os, I.bare, I.base, I.loc, I.cell, I.free, I.freeC, fun q hq => by
      have eq : q = p := by simpa using (show q ∈ [p] ++ ([] : List (Addr × Obj)) from hq)
      rw [eq]
      exact hp, I.hok, I.len⟩
section
variable {X : Cx} {p : Addr × Obj}
theorem lc_coreH {pins : List (Addr × Obj)} {s : Shared} {σ : St} {H : Hp} {Q : VK} {elt tg iter : Expr} {ifs : List Expr} {scope : Scope} {own : List (Str × Nat)} {pos pos' : Pos} {wi : TI} {g : TG} {tt : TT} {te : TE} {use : Option (Value → Sem Unit)} {Qf : Value → Shared → Prop}
    (hc : Hot1 X.A p) (hp : p ∈ X.pn) (hN : X.N.Nodup) (I : Inv X pins σ H s) (hi : PIH X tg iter wi) (ok : BlkOk X.N X.env.scope scope own)
    (hg : ∀ (s : Shared) (H : Hp) (C : Addr) (cl : List (Str × Addr)) (fp : List Addr), PG (blkH X p s H scope (compEnvC scope cl C X.env) fp) tg g) (ht : ∀ (s : Shared) (H : Hp) (C : Addr) (cl : List (Str × Addr)) (fp : List Addr), PTs (blkH X p s H scope (compEnvC scope cl C X.env) fp) ifs tt)
    (he : ∀ (s : Shared) (H : Hp) (C : Addr) (cl : List (Str × Addr)) (fp : List Addr), PE (blkH X p s H scope (compEnvC scope cl C X.env) fp) elt te) (hs : ∀ x, foldedSetIterable iter X.env x = pure x)
    (h : tLc wi g tt te (own.map (·.2)) σ H Q)
    (hRR : ∀ D C s' m H', Inv X pins σ H' s' → Q (.ref D) H' → s'.heap.Ns C m → FpOk X pins H' C → compPost (model X.prog X.w) X.A X.xe use Qf (.ref D) C (.ok .next) s') :
    wpAny (model X.prog X.w) X.A (comprehension (.ListComp elt [⟨tg, iter, ifs, 0⟩] scope pos) scope X.env pos' (newList []) false (eval iter X.env) use) Qf X.xe s := by
  have hfree : ∀ y ∈ scope.names, y.2 = .free → ∃ c, X.env.cells.lookup y.1 = some c := fun y hy e => by
    rcases ok.free y hy e with k | k
    · exact I.ok.has _ (.inl k)
    · exact I.ok.has _ (.inr k)
  refine wpAny_comprehension_free (use := use) rfl hs (closure_ok hfree) ok.kind (fun y hy e => by rw [ok.uniq y hy, e])
    (thn (hi.run pins s σ H _ I h) fun xv s1 hx => thn hx fun itv s2 h2 => ?_)
  obtain ⟨it, fp, tn, J, H2, e, I2, T, st2, f2, q⟩ := h2
  subst e
  refine wpAny_newObj_type (newEnv_comp ?_) (by show 0 ≤ sizeLine; decide)
  generalize hD : s2.heap.objs.size = D
  have hDn : H2 D = none := I2.hok.fresh (Nat.le_of_eq hD)
  obtain ⟨W, ⟨m0, w0⟩, turn⟩ := q D hDn
  generalize hs3 : ({ s2 with heap := s2.heap.push { cls := .type "list", data := .seq ([] : List Value).toArray } } : Shared) = s3
  have I3 : Inv X pins σ (upd H2 D (.lst [])) s3 := by
    rw [← hs3]
    refine I2.laid (t' := s2.toks) (fun b o e => Heap.get?_push_of_some _ e) (Nat.le_of_eq hD) ⟨Nat.zero_le _, [], 0, .nil, ?_⟩
    rw [← hD]
    exact Heap.get?_push_size _ rfl
  have h3 : s3.heap = s2.heap.push { cls := .type "list", data := .seq ([] : List Value).toArray } := by rw [← hs3]
  have sz : ∀ b ∈ fp, b < s2.heap.objs.size := fun b hb => by
    obtain ⟨o, e, _⟩ := T.obj _ _ st2 b hb
    exact Heap.lt_size e
  have f3 : ∀ b ∈ fp, FpOk X pins (upd H2 D (.lst [])) b ∧ b < s3.heap.objs.size := fun b hb => by
    have hlt := sz b hb
    refine ⟨⟨?_, (f2 b hb).2⟩, by rw [h3, Heap.size_push]; exact Nat.lt_succ_of_lt hlt⟩
    rw [upd_ne (by rw [← hD]; exact Nat.ne_of_lt hlt)]
    exact (f2 b hb).1
  have st3 : tn 0 s3.heap := T.keep _ _ _ st2 fun b _ o e => by rw [h3]; exact Heap.get?_push_of_some _ e
  have I4 := blkH_of (block_start I3 ok hN f3) ⟨pushCells_keeps _ _ _ _ (Heap.get?_push_of_some _ (I3.pin p (List.mem_append_left _ hp)).1), (I3.pin p (List.mem_append_left _ hp)).2.1, Nat.ne_of_lt (Heap.lt_size (I3.pin p (List.mem_append_left _ hp)).1), fun hm => (List.mem_cons.mp (I3.stkSub p.1 hm)).elim (I3.pin p (List.mem_append_left _ hp)).2.2.1 (I3.pin p (List.mem_append_left _ hp)).2.2.2.1, (I3.pin p (List.mem_append_left _ hp)).2.2.2.2⟩
  have pg := hg s3 (upd H2 D (.lst [])) s3.heap.objs.size (cellsFrom (s3.heap.objs.size + 1) scope.names (cloFrom X.env.cells scope.names [])) fp
  have pt := ht s3 (upd H2 D (.lst [])) s3.heap.objs.size (cellsFrom (s3.heap.objs.size + 1) scope.names (cloFrom X.env.cells scope.names [])) fp
  have pe := he s3 (upd H2 D (.lst [])) s3.heap.objs.size (cellsFrom (s3.heap.objs.size + 1) scope.names (cloFrom X.env.cells scope.names [])) fp
  show codeAny _ _ (.compStart (.ListComp elt [⟨tg, iter, ifs, 0⟩] scope pos) 0 (.ref it) (.ref D) (compEnvC scope (cellsFrom (s3.heap.objs.size + 1) scope.names (cloFrom X.env.cells scope.names [])) s3.heap.objs.size X.env)) (compPost (model X.prog X.w) X.A X.xe use Qf (.ref D) s3.heap.objs.size) { s3 with heap := pushCells (s3.heap.push { cls := .type "dict", data := .dict #[] }) scope.names }
  have nfp : ∀ b ∈ fp, (upd H2 D (.lst [])) b = none := fun b hb => (f3 b hb).1.1
  generalize hce : compEnvC scope (cellsFrom (s3.heap.objs.size + 1) scope.names (cloFrom X.env.cells scope.names [])) s3.heap.objs.size X.env = ce at I4 pg pt pe ⊢
  have cL : ce.locals = s3.heap.objs.size := by subst hce; rfl
  generalize hH3 : upd H2 D (.lst []) = H3 at I3 I4 pg pt pe w0 nfp f3
  generalize hs4 : ({ s3 with heap := pushCells (s3.heap.push { cls := .type "dict", data := .dict #[] }) scope.names } : Shared) = s4 at I4 ⊢
  have st4 : tn 0 s4.heap := T.keep _ _ _ st3 fun b _ o e => by rw [← hs4]; exact pushCells_keeps _ _ _ _ (Heap.get?_push_of_some _ e)
  have stat : ∀ {σ' : St} {H' : Hp} {s' : Shared}, Inv (blkH X p s3 H3 scope ce fp) [] σ' H' s' → (∀ b ∈ fp, H' b = none) → ∀ b ∈ fp, FpOk (blkH X p s3 H3 scope ce fp) [] H' b := fun {σ' H' s'} I' hn b hb =>
    ⟨hn b hb, (I'.ok.exf b hb).1, I'.ok.exfs b hb, .inl hb, fun x c e => (I'.ok.exf b hb).2 x c e, fun q hq => by
      have eq : q = p := by simpa using (show q ∈ [p] ++ ([] : List (Addr × Obj)) from hq)
      rw [eq]
      exact (f2 b hb).2.2.2.2.2 p (List.mem_append_left _ hp)⟩
  have loop : codeAny (model X.prog X.w) X.A (.compLoop (.ListComp elt [⟨tg, iter, ifs, 0⟩] scope pos) 0 (.ref it) (.ref D) ce) (compPost (model X.prog X.w) X.A X.xe use Qf (.ref D) s3.heap.objs.size) s4 := by
    refine compLoop_any (fun n s' => ∃ i H', Inv (blkH X p s3 H3 scope ce fp) [] (wipe σ (own.map (·.2))) H' s' ∧ tn i s'.heap ∧ (∀ b ∈ fp, H' b = none) ∧ W i n H') ?_ m0 ⟨0, H3, I4, st4, nfp, w0⟩
    rintro n s5 ⟨i, H5, I5, st5, n5, w5⟩
    rcases turn i n H5 w5 with ⟨stop, qq⟩ | ⟨go, Nx, hNx, step⟩
    · have td := T.done (blkH X p s3 H3 scope ce fp) rfl rfl rfl ⟨p, hc, List.mem_cons_self⟩ i [] s5 _ H5 (fun _ _ => False) I5 (stat I5 n5) st5 stop
      refine thnF td fun r s6 ⟨hr, I6⟩ => ?_
      subst hr
      have I7 : Inv X pins σ H5 s6 := I3.call' (ch := fp) I6.os I6.base I6.hok I6.bare fun b hb => ⟨(f3 b hb).1.2.2.2.1, (f3 b hb).1.2.1, (f3 b hb).1.2.2.2.2.1, (f3 b hb).1.2.2.2.2.2⟩
      have nC : H5 s3.heap.objs.size = none := by
        have z : H5 ce.locals = none := I6.free
        rw [cL] at z
        exact z
      obtain ⟨m, hn, _⟩ := I6.loc
      have hn : s6.heap.Ns ce.locals m := hn
      rw [cL] at hn
      exact hRR D s3.heap.objs.size s6 m H5 I7 qq hn (I3.fpOk (Nat.le_refl _) nC)
    · have ti := T.item (blkH X p s3 H3 scope ce fp) rfl rfl rfl ⟨p, hc, List.mem_cons_self⟩ i [] s5 _ H5 (fun _ _ => False) I5 (stat I5 n5) st5 go
      refine thnF ti fun r s6 ⟨u, hr, h6⟩ => ?_
      subst hr
      refine thnF h6 fun _ s7 ⟨x, H7, I7, r7, y7, st7, n7⟩ => ?_
      have I7' := I7.pinned (stat I7 n7) (T.obj _ _ st7)
      refine thnF (pg.run _ s7 _ H7 x u _ I7' r7 (step x H7 y7)) fun _ s8 ⟨σ8, H8, I8, hw8, q8⟩ => ?_
      refine thnF (pt.run _ s8 σ8 H8 _ I8 q8) fun b s9 ⟨H9, I9, q9⟩ => ?_
      have fin : ∀ {s' : Shared} {H' : Hp}, Inv (blkH X p s3 H3 scope ce fp) ([] ++ pinsAt fp s7.heap) σ8 H' s' → Nx H' → ∃ m, m < n ∧ ∃ i H', Inv (blkH X p s3 H3 scope ce fp) [] (wipe σ (own.map (·.2))) H' s' ∧ tn i s'.heap ∧ (∀ b ∈ fp, H' b = none) ∧ W i m H' := fun {s' H'} I' nx => by
        obtain ⟨m', hm, w'⟩ := hNx H' nx
        have pin' : ∀ b ∈ fp, ∀ o, s7.heap.get? b = some o → s'.heap.get? b = some o ∧ H' b = none := fun b hb o e =>
          let z := I'.pin (b, o) (List.mem_append_right _ (List.mem_append_right _ (mem_pinsAt hb e)))
          ⟨z.1, z.2.1⟩
        have hl : (wipe σ (own.map (·.2))).length = σ8.length := by rw [← hw8, wipe_length]
        refine ⟨m', hm, i + 1, H', (I'.unpinned (pins := [])).weak hl (fun j v e => ?_), T.keep _ _ _ st7 fun b hb o e => (pin' b hb o e).1, fun b hb => ?_, w'⟩
        · rw [← hw8] at e
          exact (wipe_some e).1
        · obtain ⟨o, e, _⟩ := T.obj _ _ st7 b hb
          exact (pin' b hb o e).2
      cases b with
      | false =>
        simp only [Bool.false_eq_true, if_false] at q9 ⊢
        exact fin I9 q9
      | true =>
        simp only [if_true] at q9 ⊢
        refine thnF (pe.run _ s9 σ8 H9 _ I9 q9) fun z s10 ⟨yv, H10, I10, r10, acc, hD10, hz10, nx⟩ => ?_
        exact app_ok (X := blkH X p s3 H3 scope ce fp) I10 hD10 hz10 r10 fun s11 I11 => fin I11 nx
  exact codeAny_compStart_list loop (T.self X.A 0 _ _ _ st4 loop)
theorem pe_lcH {elt tg iter : Expr} {ifs : List Expr} {scope : Scope} {own : List (Str × Nat)} {pos : Pos} {wi : TI} {g : TG} {tt : TT} {te : TE} (hc : Hot1 X.A p) (hp : p ∈ X.pn) (hN : X.N.Nodup) (hi : PIH X tg iter wi) (ok : BlkOk X.N X.env.scope scope own)
    (hg : ∀ (s : Shared) (H : Hp) (C : Addr) (cl : List (Str × Addr)) (fp : List Addr), PG (blkH X p s H scope (compEnvC scope cl C X.env) fp) tg g) (ht : ∀ (s : Shared) (H : Hp) (C : Addr) (cl : List (Str × Addr)) (fp : List Addr), PTs (blkH X p s H scope (compEnvC scope cl C X.env) fp) ifs tt)
    (he : ∀ (s : Shared) (H : Hp) (C : Addr) (cl : List (Str × Addr)) (fp : List Addr), PE (blkH X p s H scope (compEnvC scope cl C X.env) fp) elt te) (hs : ∀ x, foldedSetIterable iter X.env x = pure x := by intro _; rfl) :
    PE X (.ListComp elt [⟨tg, iter, ifs, 0⟩] scope pos) (tLc wi g tt te (own.map (·.2))) := by
  refine ⟨fun pins s σ H Q I h => ?_⟩
  rw [eval_ListComp]
  refine lc_coreH hc hp hN I hi ok hg ht he hs h fun D C s' m H' I' q hn f => ⟨m, hn, fun h'' sb => ?_⟩
  obtain ⟨f0, f1, f2, f3, f4, f5⟩ := f
  exact ⟨.ref D, H', I'.turned (t' := s'.toks) (fun b o hb e => (sb.2 b hb).trans e) f0 f1 f3 f4 f5, rfl, q⟩
theorem ps_setLcH {i : Nat} {y : Str} {py : Pos} {elt tg iter : Expr} {ifs : List Expr} {scope : Scope} {own : List (Str × Nat)} {pos spos : Pos} {wi : TI} {g : TG} {tt : TT} {te : TE} (hc : Hot1 X.A p) (hp : p ∈ X.pn) (hN : X.N.Nodup) (hy : X.N[i]? = some y) (hyl : X.env.scope.names.lookup y = some .local)
    (hsw : swapsWith (.ListComp elt [⟨tg, iter, ifs, 0⟩] scope pos) (some (.Name y py)) spos.line X.env = pure true) (hi : PIH X tg iter wi) (ok : BlkOk X.N X.env.scope scope own)
    (hg : ∀ (s : Shared) (H : Hp) (C : Addr) (cl : List (Str × Addr)) (fp : List Addr), PG (blkH X p s H scope (compEnvC scope cl C X.env) fp) tg g) (ht : ∀ (s : Shared) (H : Hp) (C : Addr) (cl : List (Str × Addr)) (fp : List Addr), PTs (blkH X p s H scope (compEnvC scope cl C X.env) fp) ifs tt)
    (he : ∀ (s : Shared) (H : Hp) (C : Addr) (cl : List (Str × Addr)) (fp : List Addr), PE (blkH X p s H scope (compEnvC scope cl C X.env) fp) elt te) (hs : ∀ x, foldedSetIterable iter X.env x = pure x := by intro _; rfl) :
    PS X (.Assign [.Name y py] (.ListComp elt [⟨tg, iter, ifs, 0⟩] scope pos) spos) (tAsg (tLc wi g tt te (own.map (·.2))) (gName i)) := by
  refine ⟨fun pins s σ H D I h => ?_⟩
  rw [exec_Assign_Name_used _ _ _ _ hsw]
  refine wpAny_bind (wpAny_standAt (wpAny_bind ?_))
  show wpAny _ X.A (do let _ ← comprehension (.ListComp elt [⟨tg, iter, ifs, 0⟩] scope pos) scope X.env (firstIterPos [⟨tg, iter, ifs, 0⟩] pos) (newList []) false (eval iter X.env) (some (assign (.Name y py) X.env))) _ _ s
  have h : tLc wi g tt te (own.map (·.2)) σ H (fun x H1 => gName i x σ H1 D.nx) := h
  refine wpAny_bind (thn (lc_coreH (Qf := fun _ s' => SP X pins D .next s') hc hp hN I hi ok hg ht he hs h fun L C s' m H' I' q hn f => ?_) fun _ s' hq => wpAny_pure (wpAny_pure hq))
  show wpAny _ _ (assign (.Name y py) X.env (.ref L)) _ _ _
  refine wpAny_assign_Name (store_ok2 (v := V.ref L) I' hN hy (.inl hyl) rfl (fun s2 I2 ⟨a, sb, ha⟩ => ?_) (.inr hyl))
  obtain ⟨f0, f1, f2, f3, f4, f5⟩ := f
  have haC : C ≠ a := by
    rcases ha with z | z
    · rw [z]; exact f1
    · exact fun e => f4 y a z e.symm
  refine ⟨m, hn.sameBut sb haC, fun h3 sb3 => ?_⟩
  exact ⟨_, H', I2.turned (t' := s2.toks) (fun b o hb e => (sb3.2 b hb).trans e) f0 f1 f3 f4 f5, q⟩
end
end L2H
set_option Elab.async false
set_option linter.all false
set_option maxRecDepth 100000
set_option maxHeartbeats 4000000
namespace PVH
open PySem PySem.Spec PyProof.Rows L2 HotX L2H PV
/-! ## defs called from an except suite -/
/-- what such a def promises: the handled exception p of the class k -/
structure FnX (P : Program) (w : World) (K : PySem.W.Frag) (mg : Str → Option Value) (base : Heap) (CX : CXT) (cv : Nat → Value) (r : Nat → Prop) (f : Addr) (fd : FuncData) (ps : List Str) (sp : Addr → Nat → Sp) : Prop where
  len : ∀ a k vs H Q E, sp a k vs H Q E → vs.length = ps.length
  run : ∀ (A : Around) (outer : List PySem.Env) (s : Shared) (H : Hp) (args : Args) (us : List Value) (vs : List V) (Q : VK) (E : XK) (p : Addr × Obj) (k : Nat), RoomH 0 A → Hot1 A p → r k → Zc (cv k) none p.2 → PinOk outer H s p → Env0 P w K mg base A outer s H → BindsTo s fd args (ps.zip us) → Vals vs us → sp p.1 k vs H Q E →
    codeAny (model P w) A (.call (.ref f) args) (CR CX outer P w H s Q E) s
theorem fn_ofX {CX : CXT} {P : Program} {w : World} {K : PySem.W.Frag} {mg : Str → Option Value} {base : Heap} {cv : Nat → Value} {rr : Nat → Prop} {f : Addr} {name qual : Str} {params : Arguments} {body : List Stmt} {scope : Scope} {dV kV doc pm cdv ct oc : Value} {an od : Option Addr}
    {osl : Array (Option Value)} {N ps : List Str} {sp : Addr → Nat → Sp} (lk : K.lookup f = some ⟨oc, od, .func (PySem.W.fnOf name qual params body scope dV kV doc pm an cdv ct), osl⟩) (hcd : PySem.W.codeIn K cdv qual = true) (S : FnScope N ps scope)
    (len : ∀ a k vs H Q E, sp a k vs H Q E → vs.length = ps.length)
    (hbody : ∀ (A : Around) (outer : List PySem.Env) (s : Shared) (H : Hp) (vs : List V) (Q : VK) (E : XK) (p : Addr × Obj) (k : Nat), rr k → Hot1 A p → Zc (cv k) none p.2 → A.units + 200 < cLine → sp p.1 k vs H Q E →
      ∃ t, PSs (cxH CX P w K mg base N qual scope f cdv A outer s H E p) body t ∧ t { nx := fun _ H' => Q .non H', rt := Q } (L2.start N vs) H) :
    FnX P w K mg base CX cv rr f (PySem.W.fnOf name qual params body scope dV kV doc pm an cdv ct) ps sp := by
  refine ⟨len, fun A outer s H args us vs Q E p k hr hot hk hz hpin e0 hb r hsp => ?_⟩
  have hl := len _ _ _ _ _ _ hsp
  have KX : K.In s.heap := e0.mod.kin.keeps fun b o e => (e0.bs b o e).1
  have lim : s.heap.NoLimit := e0.mod.nolimit.keeps fun b o e => (e0.bs b o e).1
  have hkind : ∀ y ∈ ps.zip us, scope.names.lookup y.1 = some .local ∨ (scope.names.lookup y.1 = some .cell ∧ ((cellsFrom (s.heap.objs.size + 1) scope.names []).lookup y.1).isSome = true) := fun ⟨n, v⟩ hy => by
    rcases S.par n (List.of_mem_zip hy).1 with q | q
    · exact .inl q
    · exact .inr ⟨q, PySem.W.cellsFrom_some _ _ _ (.inl q)⟩
  refine codeAny_call_function hr.depth (KX _ _ lk) rfl S.co S.gen rfl (PySem.W.codeRec_of KX hcd) (hb _ _ _ _ ?_)
  refine wpAny_newFunctionEnv_cells S.kind hkind fun env he s1 x => ?_
  subst he
  refine ⟨lim.keeps x.toInCall.keep, codeAny_func ?_⟩
  obtain ⟨t, ht, hq⟩ := hbody A outer s H vs Q E p k hk hot hz (by have := hr.un; omega) hsp
  have I : Inv (cxH CX P w K mg base N qual scope f cdv A outer s H E p) [] (L2.start N vs) H s1 := inv_startH S hpin e0 hl r x
  refine wpAny_mono (ht.run [] s1 (L2.start N vs) H _ I hq) (fun fl s' hs => ?_) fun e s' hs => hs
  have fin : ∀ {σ' : L2.St} {H' : Hp} {v : V} {u : Value}, Inv (cxH CX P w K mg base N qual scope f cdv A outer s H E p) [] σ' H' s' → RelV v u → Q v H' → CE outer P w H s Q u s' :=
    fun {σ' H' v u} J rv q => ⟨v, H', J.os, J.bare, J.base, J.hok, rv, q⟩
  cases fl with
  | ret u =>
    obtain ⟨v, σ', H', J, rv, q⟩ := hs
    exact fin J rv q
  | next =>
    obtain ⟨σ', H', J, q⟩ := hs
    exact fin (v := V.non) (u := Value.none) J rfl q
  | brk =>
    obtain ⟨_, _, _, q⟩ := hs
    exact False.elim q
  | cont =>
    obtain ⟨_, _, _, q⟩ := hs
    exact False.elim q
section
variable {X : Cx} {CX : CXT} {cv : Nat → Value} {rr : Nat → Prop} {k : Nat} {f : Addr} {fd : FuncData} {ps : List Str} {sp : Addr → Nat → Sp} {E : L2.St → XK} {x : Str} {q pos : Pos} {e : Expr} {es : List Expr} {t : TA} {p : Addr × Obj}
theorem run_fnX {pins : List (Addr × Obj)} {σ : L2.St} {H : Hp} {s : Shared} {Q : VK} {us : List Value} {vs : List V} (F : FnX X.prog X.w X.K X.mg X.base CX cv rr f fd ps sp) (hr : RoomH 0 X.A) (hot : Hot1 X.A p) (hp : p ∈ X.pn) (hk : rr k) (hz : Zc (cv k) none p.2) (hb : Binds X.K fd ps []) (hx : PassesAt CX X σ (E σ))
    (I : Inv X pins σ H s) (r : Vals vs us) (h : sp p.1 k vs H Q (E σ)) : wpAny (model X.prog X.w) X.A (call (.ref f) us) (EP X pins σ Q) X.xe s := by
  have hl : us.length = ps.length := by rw [← r.length]; exact F.len _ _ _ _ _ _ h
  have b := hb s us I.kIn (by rw [List.append_nil]; exact hl)
  rw [List.append_nil] at b
  have P1 := I.pin p (List.mem_append_left _ hp)
  have hpin : PinOk X.stack H s p := ⟨P1.1, P1.2.1, fun hm => (List.mem_cons.mp (I.stkSub p.1 hm)).elim P1.2.2.1 P1.2.2.2.1, P1.2.2.2.2⟩
  refine wpAny_call (codeAny_mono (F.run X.A X.stack s H ⟨us, []⟩ us vs Q (E σ) p k hr hot hk hz hpin I.env0 b r h) fun r s' hq => ?_)
  cases r with
  | error e => exact hx pins H s e s' I hq
  | ok fl =>
    cases fl with
    | ret u => exact I.after hq
    | next => exact False.elim hq
    | brk => exact False.elim hq
    | cont => exact False.elim hq
theorem pe_callX (F : FnX X.prog X.w X.K X.mg X.base CX cv rr f fd ps sp) (hr : RoomH 0 X.A) (hot : Hot1 X.A p) (hp : p ∈ X.pn) (hkk : rr k) (hz : Zc (cv k) none p.2) (hg : Gl X x) (hm : X.mg x = some (.ref f)) (hk : PySem.W.keepIn X.K (.ref f) = true) (hb : Binds X.K fd ps []) (hx : ∀ σ, PassesAt CX X σ (E σ))
    (ha : PA X (e :: es) t) (hdb : (x == ("__debug__" : Str)) = false := by decide) (he : starEach (e :: es) X.env = (false, eval e X.env) :: starEach es X.env := by rfl) (hpl : (backTo pos (starEach es X.env)).any (·.1) = false := by rfl) :
    PE X (.Call (.Name x q) (e :: es) [] pos) (tCallS (sp p.1 k) E t) := by
  refine ⟨fun pins s σ H Q I h => ?_⟩
  refine wpAny_Call_Name_kw (ld_glob I hg hm ?_ hdb)
  refine PySem.W.callWith_K (h₀ := X.base) I.ok.mod.kin hk (thn (ha.run pos pins s σ H _ I h) fun us s1 ⟨vs, H1, I1, r, q⟩ => ⟨I1.kIn, ?_⟩) he hpl
  exact run_fnX F hr hot hp hkk hz hb (hx σ) I1 r q
end
theorem call_isEH {X : Cx} {D : Addr} {p : Addr × Obj} (C : ExcC X.K D) (hz : Zc (.ref D) none p.2) (hf : ∃ vs, p.2.data = .fields vs) (hp : p ∈ X.pn) : CallR X (.builtin "isinstance") (rIsE X.K D p.1) := by
  intro pins s σ H xs us Q I r h
  obtain ⟨c, cv, b, rfl, hcv, e, q⟩ := h
  cases r with
  | cons rx rr =>
    cases rr with
    | cons rt rr =>
      cases rr
      cases rx
      have ec := hcv _ rt
      subst ec
      obtain ⟨hget, _⟩ := I.pin p (List.mem_append_left _ hp)
      obtain ⟨vs, hv⟩ := hf
      have J : PySem.W.InstAt s.heap p.1 p.2 D none := by
        obtain ⟨a, oc, od, oda, osl⟩ := p
        obtain ⟨h1, h2⟩ := hz
        dsimp only at h1 h2 hv
        subst h1 h2 hv
        exact ⟨hget, rfl, rfl, trivial⟩
      exact PySem.W.kia_one (PySem.W.handS_kitx_exc C.hg C.hk C.hs C.hd C.ha C.hn C.ht C.hm) I.kIn J e (fun z => nomatch z) fun tk => ⟨.bl b, H, I.kept (t' := tk) fun _ _ z => z, rfl, q⟩
end PVH
namespace PV
open PySem PySem.Spec PyProof.Rows L2 HotX L2H PVH
variable [Tabs]
/-- where code of such a def stands -/
structure AtH (X : Cx) (p : Addr × Obj) (C : Value) : Prop where
  hot : Hot1 X.A p
  pn : p ∈ X.pn
  cl : Zc C none p.2
  un : X.A.units + 65 < cLine
theorem AtH.fl {X : Cx} {p : Addr × Obj} {C : Value} (a : AtH X p C) : ∃ vs, p.2.data = .fields vs := let ⟨_, vs, e, _⟩ := a.hot; ⟨vs, e⟩
theorem AtH.hc {X : Cx} {p : Addr × Obj} {C : Value} (a : AtH X p C) : HotC X := ⟨p, a.hot, a.pn⟩
theorem AtH.blk {X : Cx} {p : Addr × Obj} {C : Value} {s : Shared} {H : Hp} {scope : Scope} {cenv : PySem.Env} {fp : List Addr} (a : AtH X p C) : AtH (blkH X p s H scope cenv fp) p C := ⟨a.hot, List.mem_cons_self, a.cl, a.un⟩
section
variable {P : Program} {w : World} {K : PySem.W.Frag} {mg : Str → Option Value} {base : Heap} {cv : Nat → Value}
theorem fn_okX {x qual : Str} {params : Arguments} {body : List Stmt} {scope : Scope} {f : Addr} {fd : FuncData} {N ps : List Str} {kp : Nat → Bool} {rr : Nat → Prop} {g : Addr → Nat → SS} (F : FunD K x qual params body scope [] [] f fd) (S : FnScope N ps scope)
    (hbody : ∀ (cdv : Value) (A : Around) (outer : List PySem.Env) (s : Shared) (H : Hp) (E : XK) (p : Addr × Obj) (k : Nat), rr k → AtH (cxH (L2N.CX P w) P w K mg base N qual scope f cdv A outer s H E p) p (cv k) →
      PSs (cxH (L2N.CX P w) P w K mg base N qual scope f cdv A outer s H E p) body (ss K cv (fun cls d _ H => E cls d H) kp (g p.1 k))) :
    FnX P w K mg base (L2N.CX P w) cv rr f fd ps (fun a k => spF K cv ps.length (mkF ps.length N.length kp (g a k))) := by
  obtain ⟨oc, od, dV, kV, doc, pm, an, cdv, ct, osl, rfl, lk, hcd, _, _⟩ := F.ex
  refine fn_ofX lk hcd S (fun a k vs H Q E h => h.1) fun A outer s H vs Q E p k hk hot hz hu hsp => ?_
  refine ⟨_, hbody cdv A outer s H E p k hk ⟨hot, List.mem_cons_self, hz, ?_⟩, ?_⟩
  · show A.units + 3 + 65 < cLine
    omega
  obtain ⟨hl, F0, ds, B, o, dd, tr, tab, fin⟩ := hsp
  have hl2 : ds.length = ps.length := by rw [← o.length, hl]
  simp only [mkF, hl2, if_true] at fin
  refine ⟨F0, ds.map some ++ List.replicate (N.length - ps.length) none, B, ⟨?_, dd, tr, tab⟩, ?_⟩
  · unfold L2.start
    rw [hl]
    exact envR_start vs ds B _ o
  · cases q : g p.1 k (ds.map some ++ List.replicate (N.length - ps.length) none) with
    | nx e' =>
      rw [q] at fin
      intro σ' H' F' B' k x w' s'
      obtain ⟨B2, h1, h2⟩ := outs_ok (kp := kp) vs 0 σ' e' B' w'.er (kept_start k)
      rw [hl] at h1
      exact fin .non H' F' [] B2 x h1 (by simp [Ow]) ⟨w'.dis.1.sublist h2, fun a h => w'.dis.2 a (h2.subset h)⟩ w'.tr fun a h => s' a (h2.subset h)
    | rt d e' =>
      rw [q] at fin
      intro v σ' H' F' A2 B' k x w' o2 d2 s'
      obtain ⟨B2, h1, h2⟩ := outs_ok (kp := kp) vs 0 σ' e' B' w'.er (kept_start k)
      rw [hl] at h1
      exact fin v H' F' A2 B2 x h1 o2 (d2.sub (h2.append_left A2)) w'.tr fun a h => s' a ((h2.append_left A2).subset h)
    | exc c e' =>
      rw [q] at fin
      intro σ' H' F' B' k x w' s'
      obtain ⟨B2, h1, h2⟩ := outs_ok (kp := kp) vs 0 σ' e' B' w'.er (kept_start k)
      rw [hl] at h1
      exact fin H' F' B2 x h1 (w'.dis.sub h2) w'.tr fun a h => s' a (h2.subset h)
    | bk e' => rw [q] at fin; exact False.elim fin
    | ct e' => rw [q] at fin; exact False.elim fin
    | bad => rw [q] at fin; exact False.elim fin
/-- a def that may be called in a suite -/
def FnAtX (P : Program) (w : World) (K : PySem.W.Frag) (mg : Str → Option Value) (base : Heap) (cv : Nat → Value) (x : Str) (ps : List Str) (rr : Nat → Prop) (g : Addr → Nat → FnD) : Prop :=
  ∃ f fd, FnX P w K mg base (L2N.CX P w) cv rr f fd ps (fun a k => spF K cv ps.length (g a k)) ∧ mg x = some (.ref f) ∧ PySem.W.keepIn K (.ref f) = true ∧ Binds K fd ps []
end
section
variable {X : Cx} {cv : Nat → Value} {W : WX} {kp : Nat → Bool} {j : Nat}
theorem kCallX {rr : Nat → Prop} {x : Str} {k : Nat} {a : Addr} {oe : Obj} {pn : List (Addr × Obj)} {ps : List Str} {g : Addr → Nat → FnD} {e : Expr} {es : List Expr} {os : SA} {p pos : Pos} (c : At X W j) (F : FnAtX X.prog X.w X.K X.mg X.base cv x ps rr g) (hk : rr k) (hz : L2N.Zn (cv k) none oe) (hf : ∃ vs, oe.data = .fields vs)
    (ha : PA (X.suite a ((a, oe) :: pn)) (e :: es) (sm X.K cv WF (rL X.K) os)) (hg : Gl X x := by rfl) (hdb : (x == ("__debug__" : Str)) = false := by decide +kernel) (hs : (e :: es).all notStar = true := by rfl) :
    PE (X.suite a ((a, oe) :: pn)) (.Call (.Name x p) (e :: es) [] pos) (sm X.K cv WF (rD X.K) (sCall ps.length (g a k) os)) := by
  simp only [List.all_cons, Bool.and_eq_true] at hs
  obtain ⟨f, fd, F, hm, hkp, hb⟩ := F
  have h0 := c.hr.mono (Nat.zero_le _)
  obtain ⟨vs, hv⟩ := id hf
  exact (pe_callX (X := X.suite a ((a, oe) :: pn)) (p := (a, oe)) (k := k) F ⟨h0.dp, by have := h0.un; exact this⟩ ⟨rfl, vs, hv, hz.2.2 vs hv⟩ List.mem_cons_self hk hz.zc hg hm hkp hb (fun σ => L2N.passAt takesN_none σ) ha hdb (star_cons hs.1) (star_plain hs.2)).imp fun σ H Q => sCall_read (W := WF)
end
section
variable {X : Cx} {cv : Nat → Value} {W : WX} {kp : Nat → Bool} {p : Addr × Obj} {C : Value} {a b : Expr} {o1 o2 : SO} {pos : Pos}
theorem cEqH (c : AtH X p C) (ha : PE X a (sm X.K cv W (rA X.K) o1)) (hb : PE X b (sm X.K cv W (rA X.K) o2)) : PE X (.Compare a [.Eq] [b] pos) (sm X.K cv W (rD X.K) (sTwo o1 o2 fEq)) := px_cmp (op_eqD (by have := c.un; omega)) rule_eq (nomark b) ha hb
theorem cNeH (c : AtH X p C) (ha : PE X a (sm X.K cv W (rA X.K) o1)) (hb : PE X b (sm X.K cv W (rA X.K) o2)) : PE X (.Compare a [.NotEq] [b] pos) (sm X.K cv W (rD X.K) (sTwo o1 o2 fNe)) := px_cmp (op_neD (by have := c.un; omega)) rule_ne (nomark b) ha hb
theorem tEqH (c : AtH X p C) (ha : PE X a (sm X.K cv W (rA X.K) o1)) (hb : PE X b (sm X.K cv W (rA X.K) o2)) : PT X (.Compare a [.Eq] [b] pos) (sm X.K cv W rB (sB (sTwo o1 o2 fEq))) := pt_cmpS (op_eqD (by have := c.un; omega)) rule_eq (nomark b) ha hb
theorem tNeH (c : AtH X p C) (ha : PE X a (sm X.K cv W (rA X.K) o1)) (hb : PE X b (sm X.K cv W (rA X.K) o2)) : PT X (.Compare a [.NotEq] [b] pos) (sm X.K cv W rB (sB (sTwo o1 o2 fNe))) := pt_cmpS (op_neD (by have := c.un; omega)) rule_ne (nomark b) ha hb
theorem gTuH (n : Nat) {es : List Expr} {k : Nat} {gs : GTs} (hc : AtH X p C) (h : PGs X es (gTs X.K kp gs)) (hn : (assignEach es X.env).length = n := by rfl) (hst : (assignEach es X.env).findIdx? (·.1) = none := by rfl) : PG X (.Tuple es k pos) (gT X.K kp (tgTup n gs)) :=
  (pg_tupH hc.hc h hn hst).imp fun v σ H Q ⟨F, env, d, A, B, env', w, o, dd, e, h⟩ => by
    cases d <;> try (cases e; done)
    rename_i l
    simp only [tgTup] at e
    split at e
    · rename_i hl
      simp only [Ow] at o
      obtain ⟨rfl, a, xs, rfl, q, r⟩ := o
      exact ⟨a, xs, rfl, q, by rw [r.length, hl], F, env, l, B, env', w, r, e, fun σ' H' F' B' k y w' s => h σ' H' F' B' k y w' s⟩
    · cases e
theorem kIsEH {D C0 : Addr} {b : Bool} {y : Str} {e : Expr} {o : SO} {p1 p2 : Pos} (c : AtH X p C) (hD : C = .ref D) (EC : ExcC X.K D) (hm : X.mg "isinstance" = none) (hy : X.mg y = some (.ref C0)) (hk : PySem.W.kitOne X.K (.ref D) (.ref C0) = some b)
    (he : PE X e (sm X.K cv W (rA X.K) o)) (hg : Gl X "isinstance" := by rfl) (hg2 : Gl X y := by rfl) (hdb2 : (y == ("__debug__" : Str)) = false := by decide +kernel) (hs : notStar e = true := by rfl) :
    PE X (.Call (.Name "isinstance" p1) [e, .Name y p2] [] pos) (sm X.K cv W (rD X.K) (sIsE p.1 o b)) := by
  refine (pe_callB (call_isEH EC (hD ▸ c.cl) c.fl c.pn) hg hm (by decide +kernel) (pa_cons he (pa_cons (pe_glob (v := .ref C0) hg2 hy rfl hdb2) pa_nil) (star_cons hs)) (by decide +kernel) (by decide +kernel) (star_cons hs) rfl).imp fun σ H Q h => ?_
  refine (sm.run0 (P := rA X.K) (m := o) h).mono fun v H1 ⟨F2, env2, x, A2, B2, w2, p2, d2, f2⟩ => ?_
  split at f2
  · rename_i a' q
    split at f2
    · rename_i ha
      subst ha
      have t : ∀ c ∈ A2, H1 c ≠ none := st_A.there p2
      have ob := rsv_ok (w2.freeze d2 t) (fun c h => .inl h) (fun c h => .inr h) p2 q
      refine ⟨.ref C0, .ref C0, b, ?_, fun u hu => by cases hu; rfl, hk, fin_val w2 d2 t f2 fz_bl⟩
      rw [ob.adr]
    · exact False.elim f2
  · exact False.elim f2
theorem kLcHH (i : Nat) (own : List (Str × Nat)) {elt tg iter : Expr} {ifs : List Expr} {scope : Scope} {q : QE} {g : GT} {t : SM Bool} {el : SE} (nd : X.N.Nodup) (c : AtH X p C) (hi : PE X iter (qr X.K q))
    (hg : ∀ (s : Shared) (H : Hp) (C0 : Addr) (cl : List (Str × Addr)) (fp : List Addr), AtH (blkH X p s H scope (compEnvC scope cl C0 X.env) fp) p C → PG (blkH X p s H scope (compEnvC scope cl C0 X.env) fp) tg (gT X.K (kpv (own.map (·.2))) g))
    (ht : ∀ (s : Shared) (H : Hp) (C0 : Addr) (cl : List (Str × Addr)) (fp : List Addr), AtH (blkH X p s H scope (compEnvC scope cl C0 X.env) fp) p C → PTs (blkH X p s H scope (compEnvC scope cl C0 X.env) fp) ifs (sm X.K cv WF rB t))
    (he : ∀ (s : Shared) (H : Hp) (C0 : Addr) (cl : List (Str × Addr)) (fp : List Addr), AtH (blkH X p s H scope (compEnvC scope cl C0 X.env) fp) p C → PE (blkH X p s H scope (compEnvC scope cl C0 X.env) fp) elt (sm X.K cv WF (rD X.K) el)) (ok : blkC X.N X.env.scope scope own = true := by rfl) (hs : ∀ x, foldedSetIterable iter X.env x = pure x := by intro _; rfl) :
    PE X (.ListComp elt [⟨tg, iter, ifs, 0⟩] scope pos) (sm X.K cv W (rD X.K) (sLcH i q g t el (own.map (·.2)))) :=
  (pe_lcH c.hot c.pn nd (pi_listH hi) (blkOk_by ok) (fun s H C cl fp => hg s H C cl fp c.blk) (fun s H C cl fp => ht s H C cl fp c.blk) (fun s H C cl fp => he s H C cl fp c.blk) hs).imp fun σ H Q => sLcH_read
end
end PV
set_option Elab.async false
set_option linter.all false
set_option maxRecDepth 100000
set_option maxHeartbeats 4000000
namespace PV
open PySem PySem.Spec PyProof.Rows L2 HotX L2H PVH
variable [Tabs]
section
variable {X : Cx} {cv : Nat → Value} {W : WX} {p0 : Addr × Obj} {C : Value}
theorem px_indexH {i : Nat} {x : Str} {e : Expr} {o : SO} {p apos cpos : Pos} (a : AtH X p0 C) (hN : X.N[i]? = some x) (hv : Vis X.env.scope x) (hd : (x == ("__debug__" : Str)) = false) (hcd : (x == ("__classdict__" : Str)) = false) (he : PE X e (sm X.K cv W (rA X.K) o)) (hs : notStar e = true)
    (hbase : attributeBase (.Name x p) "index" X.env (eval (.Name x p) X.env) = eval (.Name x p) X.env)
    (hfew : ((backTo cpos (starEach [e] X.env)).all (fun x => !x.1) && (backToKw cpos (keywordEach [] X.env)).all (fun x => x.1.isSome)
      && decide ([e].length + ([] : List Keyword).length + (if ([] : List Keyword).isEmpty then 0 else 1) < 30)) = true) (hline : (apos.endLine == cpos.line) = true) :
    PE X (.Call (.Attribute (.Name x p) "index" apos) [e] [] cpos) (sm X.K cv W (rD X.K) (sMth i o fIndex)) :=
  (pe_bm (r := rIndexD X.K) PySem.F.plainAttrs_list PySem.F.slot_list_index PySem.F.type_list_index (mt_indexD (by have := a.un; omega)) (pe_var hN hv hd hcd) (pa_cons he pa_nil (star_cons hs)) hbase hfew hline (star_cons hs)).imp fun σ H Q ⟨F0, env0, B0, w0, f0⟩ => by
    simp only [sMth] at f0
    split at f0
    · rename_i o0 l0 q0
      obtain ⟨v0, h0, ob0⟩ := env_get (i := i) (d := .lst o0 l0) w0 (by simp only [qVar, q0])
      obtain ⟨a0, xs0, rfl, g1, _⟩ := ob0.lst
      refine ⟨_, h0, .inl ⟨rfl, _, SqL.of g1⟩, ?_⟩
      have eo : oVar i env0 = .ok (.slot i) env0 := by simp only [oVar, q0]
      simp only [sTwo, eo] at f0
      refine (sm.run0 (P := rA X.K) (m := o) ⟨F0, env0, B0, w0, f0⟩).mono fun y H1 ⟨F, env, b, A, B, w, p, dd, f⟩ => ?_
      split at f
      · rename_i dx dy q1 q2
        split at f
        · rename_i r q3
          have t : ∀ c ∈ A, H1 c ≠ none := st_A.there p
          have w6 := w.freeze dd t
          have sl : rA X.K σ H1 F (V.ref a0) (.slot i) [] := ⟨rfl, h0⟩
          exact rule_index w dd t (rsv_ok w6 (fun c h => .inl h) (fun c h => by cases h) sl q1) (rsv_ok w6 (fun c h => .inl h) (fun c h => .inr h) p q2) q3 f
        · exact False.elim f
      · exact False.elim f
    · exact False.elim f0
/-! t[::-1] -/
theorem kIndexH (i : Nat) {x : Str} {e : Expr} {o : SO} {p apos cpos : Pos} (a : AtH X p0 C) (he : PE X e (sm X.K cv W (rA X.K) o)) (hN : X.N[i]? = some x := by rfl) (hv : Vis X.env.scope x := by first | exact .inl rfl | exact .inr (.inl rfl) | exact .inr (.inr rfl)) (hd : (x == ("__debug__" : Str)) = false := by decide +kernel) (hcd : (x == ("__classdict__" : Str)) = false := by decide +kernel) (hs : notStar e = true := by rfl)
    (hbase : attributeBase (.Name x p) "index" X.env (eval (.Name x p) X.env) = eval (.Name x p) X.env := by rfl)
    (hfew : ((backTo cpos (starEach [e] X.env)).all (fun x => !x.1) && (backToKw cpos (keywordEach [] X.env)).all (fun x => x.1.isSome)
      && decide ([e].length + ([] : List Keyword).length + (if ([] : List Keyword).isEmpty then 0 else 1) < 30)) = true := by rfl) (hline : (apos.endLine == cpos.line) = true := by rfl) :
    PE X (.Call (.Attribute (.Name x p) "index" apos) [e] [] cpos) (sm X.K cv W (rD X.K) (sMth i o fIndex)) := px_indexH a hN hv hd hcd he hs hbase hfew hline
theorem zSetLcHH (i ri : Nat) (own : List (Str × Nat)) {y : Str} {py spos : Pos} {kp : Nat → Bool} {elt tg iter : Expr} {ifs : List Expr} {scope : Scope} {pos : Pos} {q : QE} {g : GT} {t : SM Bool} {el : SE} (nd : X.N.Nodup) (c : AtH X p0 C) (hi : PE X iter (qr X.K q))
    (hg : ∀ (s : Shared) (H : Hp) (C0 : Addr) (cl : List (Str × Addr)) (fp : List Addr), AtH (blkH X p0 s H scope (compEnvC scope cl C0 X.env) fp) p0 C → PG (blkH X p0 s H scope (compEnvC scope cl C0 X.env) fp) tg (gT X.K (kpv (own.map (·.2))) g))
    (ht : ∀ (s : Shared) (H : Hp) (C0 : Addr) (cl : List (Str × Addr)) (fp : List Addr), AtH (blkH X p0 s H scope (compEnvC scope cl C0 X.env) fp) p0 C → PTs (blkH X p0 s H scope (compEnvC scope cl C0 X.env) fp) ifs (sm X.K cv WF rB t))
    (he : ∀ (s : Shared) (H : Hp) (C0 : Addr) (cl : List (Str × Addr)) (fp : List Addr), AtH (blkH X p0 s H scope (compEnvC scope cl C0 X.env) fp) p0 C → PE (blkH X p0 s H scope (compEnvC scope cl C0 X.env) fp) elt (sm X.K cv WF (rD X.K) el)) (hk : kp i = false := by rfl) (hy : X.N[i]? = some y := by rfl) (hyl : X.env.scope.names.lookup y = some .local := by rfl)
    (hsw : swapsWith (.ListComp elt [⟨tg, iter, ifs, 0⟩] scope pos) (some (.Name y py)) spos.line X.env = pure true := by rfl) (ok : blkC X.N X.env.scope scope own = true := by rfl) (hs : ∀ x, foldedSetIterable iter X.env x = pure x := by intro _; rfl) :
    PS X (.Assign [.Name y py] (.ListComp elt [⟨tg, iter, ifs, 0⟩] scope pos) spos) (ss X.K cv W kp (sSet i (sLcH ri q g t el (own.map (·.2))))) :=
  (ps_setLcH c.hot c.pn nd hy hyl hsw (pi_listH hi) (blkOk_by ok) (fun s H C cl fp => hg s H C cl fp c.blk) (fun s H C cl fp => ht s H C cl fp c.blk) (fun s H C cl fp => he s H C cl fp c.blk) hs).imp fun D σ H h =>
    sLcH_read ((sm.runS (P := rD X.K) (m := sLcH ri q g t el (own.map (·.2))) h).mono fun v H1 ⟨F1, env1, a, A1, B1, w, p, d, f⟩ => put_read (cv := cv) (W := W) hk w p d f)

end
/-! ## bit operations, unpacking a list, list(range(n)) -/
section
variable {X : Cx} {cv : Nat → Value} {W : WX} {j : Nat} {kp : Nat → Bool} {a b : Expr} {o1 o2 : SO} {pos : Pos}
def fXor : D → D → Option D := fI (fun _ _ => true) fun i j => .int (Builtin.bitXor i j)
def fShr : D → D → Option D := fI (fun _ j => decide (0 ≤ j)) fun i j => .int (i / 2 ^ j.toNat)
theorem bXor (ha : PE X a (sm X.K cv W (rA X.K) o1)) (hb : PE X b (sm X.K cv W (rA X.K) o2)) : PE X (.BinOp a .BitXor b pos) (sm X.K cv W (rD X.K) (sTwo o1 o2 fXor)) := px_bin op_xor (rule_I0 fun _ _ _ _ => fz_int) ha hb
theorem bShr (ha : PE X a (sm X.K cv W (rA X.K) o1)) (hb : PE X b (sm X.K cv W (rA X.K) o2)) : PE X (.BinOp a .RShift b pos) (sm X.K cv W (rD X.K) (sTwo o1 o2 fShr)) := px_bin op_shr (rule_I (fun _ _ h => of_decide_eq_true h) fun _ _ _ _ => fz_int) ha hb
theorem ss_frz {K : PySem.W.Frag} {m : SS} {D : Ends} {σ : L2.St} {H : Hp} (i : Nat) (h : ss K cv W kp (fun e => m (frzI i e)) D σ H) : ss K cv W kp m D σ H := by
  obtain ⟨F, env, B, w, f⟩ := h
  simp only [frzI] at f
  split at f
  · rename_i l q
    obtain ⟨a, xs, As, B', h1, h2, h3, h4, h5⟩ := w.focus q
    have d0 : Dis F (a :: As ++ B') := w.dis.perm h4
    have dd : Dis F (As ++ (a :: B')) := d0.perm (by simpa using (List.perm_middle (a := a) (l₁ := As) (l₂ := B')).symm)
    have th : ∀ c ∈ As, H c ≠ none := fun c hc => by
      obtain ⟨xs, e⟩ := OwL.there _ _ _ h3 c hc
      rw [e]; simp
    have w5 : Wl K σ H (fun c => F c ∨ c ∈ As) (env.set i none) B' := h5.freeze (A := As) (dd.sub (by simp)) th
    have o : Ow K H (fun c => F c ∨ c ∈ As) (.ref a) (.lst true (fzs l)) [a] := by
      simp only [Ow]
      exact ⟨a, xs, [], rfl, h2, rfl, (OwL.fz (fun _ h => .inl h) _ _ _ h3 (fun c hc => .inr hc)).ow⟩
    obtain ⟨B3, r1, r2⟩ := EnvR.reset (o := some (.lst true (fzs l))) h1 w5.er (fun d' z => by cases z; exact o)
    rw [List.set_set] at r1
    have mB : ∀ c, c ∈ a :: As ++ B' → c ∈ B := fun c h => h4.mem_iff.mpr h
    have d3 : Dis (fun c => F c ∨ c ∈ As) ([a] ++ B') := ⟨dd.right.1, fun c hc z => z.elim (dd.right.2 c hc) fun z => dd.apart c z hc⟩
    refine ⟨_, _, B3, ⟨r1, Le.dis r2 d3, w5.tr, w5.tab⟩, FinS.step Kp.refl (Ext.freeze (A := As) (fun c hc => mB c (by simp [hc])) th) (fun c hc => .inl (mB c ?_)) f⟩
    have := r2.2 c hc
    simp at this
    rcases this with z | z <;> simp [z]
  · exact ⟨F, env, B, w, f⟩
/-- a, b, .. = a list in a name; what stands in the list becomes shared -/
def sUnpL0 (i n : Nat) (g : GTs) : SS := fun e => match e[i]? with
  | some (some (.lst _ l)) => if isFzs l ∧ l.length = n then (match g l e with
    | some e2 => .nx e2
    | none => .bad) else .bad
  | _ => .bad
def sUnpL (i n : Nat) (g : GTs) : SS := fun e => sUnpL0 i n g (frzI i e)
theorem zUnpL0 (i n : Nat) {x : Str} {es : List Expr} {k : Nat} {gs : GTs} {p tpos : Pos} (hc : X.calm = true) (h : PGs X es (gTs X.K kp gs)) (hN : X.N[i]? = some x := by rfl) (hv : Vis X.env.scope x := by first | exact .inl rfl | exact .inr (.inl rfl) | exact .inr (.inr rfl)) (hd : (x == ("__debug__" : Str)) = false := by decide +kernel) (hcd : (x == ("__classdict__" : Str)) = false := by decide +kernel)
    (hn : (assignEach es X.env).length = n := by rfl) (hst : (assignEach es X.env).findIdx? (·.1) = none := by rfl)
    (hs : swapsWithSole [.Tuple es k tpos] (.Name x p) pos.line X.env = pure false := by rfl) (hw : swappedStores [.Tuple es k tpos] (.Name x p) X.env = pure none := by rfl)
    (h1 : (assignEach [.Tuple es k tpos] X.env).map (·.2) = [assign (.Tuple es k tpos) X.env] := by rfl) : PS X (.Assign [.Tuple es k tpos] (.Name x p) pos) (ss X.K cv W kp (sUnpL0 i n gs)) :=
  (ps_asg (pe_var (i := i) hN hv hd hcd) (pg_lst hc h hn hst) hs hw h1).imp fun D σ H ⟨F, env, B, w, f⟩ => by
    simp only [sUnpL0] at f
    split at f
    · rename_i o l q
      split at f
      · rename_i hz
        split at f
        · rename_i e2 q2
          obtain ⟨v, g1, ob⟩ := env_get (i := i) (d := .lst o l) w (by simp only [qVar, q])
          obtain ⟨a, xs, rfl, g2, g3, g4⟩ := ob.lst
          exact ⟨.ref a, g1, a, xs, rfl, SqL.of g2, by rw [g3]; exact hz.2, F, env, l, B, e2, w, g4 hz.1, q2, fun σ' H' F' B' k y w' s => f σ' H' F' B' k y w' s⟩
        · exact False.elim f
      · exact False.elim f
    · exact False.elim f
theorem zUnpL (i n : Nat) {x : Str} {es : List Expr} {k : Nat} {gs : GTs} {p tpos : Pos} (hc : X.calm = true) (h : PGs X es (gTs X.K kp gs)) (hN : X.N[i]? = some x := by rfl) (hv : Vis X.env.scope x := by first | exact .inl rfl | exact .inr (.inl rfl) | exact .inr (.inr rfl)) (hd : (x == ("__debug__" : Str)) = false := by decide +kernel) (hcd : (x == ("__classdict__" : Str)) = false := by decide +kernel)
    (hn : (assignEach es X.env).length = n := by rfl) (hst : (assignEach es X.env).findIdx? (·.1) = none := by rfl)
    (hs : swapsWithSole [.Tuple es k tpos] (.Name x p) pos.line X.env = pure false := by rfl) (hw : swappedStores [.Tuple es k tpos] (.Name x p) X.env = pure none := by rfl)
    (h1 : (assignEach [.Tuple es k tpos] X.env).map (·.2) = [assign (.Tuple es k tpos) X.env] := by rfl) : PS X (.Assign [.Tuple es k tpos] (.Name x p) pos) (ss X.K cv W kp (sUnpL i n gs)) :=
  (zUnpL0 i n hc h hN hv hd hcd hn hst hs hw h1).imp fun D σ H hh => ss_frz i hh
theorem fzL_rg {K : PySem.W.Frag} {H : Hp} {F : Addr → Prop} {lo : Int} : ∀ (n m : Nat), FzL K H F ((List.range' m n).map fun (i : Nat) => V.int (lo + i)) ((List.range' m n).map fun (i : Nat) => D.int (lo + i))
  | 0, _ => by simp [FzL]
  | n + 1, m => by
    simp only [List.range'_succ, List.map_cons, FzL]
    exact ⟨_, _, rfl, fz_int, fzL_rg n (m + 1)⟩
def fLRg : D → Option D
  | .int n => if n ≤ 16777216 ∧ -16777216 ≤ n then some (.lst true (rngD 0 n.toNat)) else none
  | _ => none
def fTRg : D → Option D
  | .int n => if n ≤ 16777216 ∧ -16777216 ≤ n then some (.tup (rngD 0 n.toNat)) else none
  | _ => none
theorem fz_rgV {K : PySem.W.Frag} {H : Hp} {F : Addr → Prop} {n : Int} : FzL K H F (rgV 0 n) (rngD 0 n.toNat) := by
  have := fzL_rg (K := K) (H := H) (F := F) (lo := 0) n.toNat 0
  rw [← List.range_eq_range'] at this
  unfold rgV rngD
  rw [Int.sub_zero]
  exact this
theorem kLstRg {e : Expr} {o : SO} {p p2 pos2 : Pos} (c : At X W j) (hm : X.mg "list" = none) (hm2 : X.mg "range" = none) (he : PE X e (sm X.K cv W (rA X.K) o)) (hg : Gl X "list" := by rfl) (hg2 : Gl X "range" := by rfl) (hs : notStar e = true := by rfl) :
    PE X (.Call (.Name "list" p) [.Call (.Name "range" p2) [e] [] pos2] [] pos) (sm X.K cv W (rD X.K) (sOne o fLRg)) :=
  (pe_listRg c.calm hg hm (prg_1 hg2 hm2 he (star_cons hs))).imp fun σ H Q h => (sm.run0 (P := rA X.K) (m := o) h).mono fun v H1 ⟨F2, env2, a, A2, B2, w2, p2, d2, f2⟩ => by
    split at f2
    · rename_i x q
      have t : ∀ c ∈ A2, H1 c ≠ none := st_A.there p2
      have ob := rsv_ok (w2.freeze d2 t) (fun c h => .inl h) (fun c h => .inr h) p2 q
      split at f2
      · rename_i r e
        cases x <;> try (cases e; done)
        simp only [fLRg] at e
        split at e
        · rename_i hz
          cases e
          exact ⟨_, ob.int, ⟨by omega, by omega, by omega, by omega, by omega⟩, fun p hp => Fin.newL hp w2 d2 t f2 fz_rgV⟩
        · cases e
      · exact False.elim f2
    · exact False.elim f2
theorem kTupRg {e : Expr} {o : SO} {p p2 pos2 : Pos} (c : At X W j) (hm : X.mg "tuple" = none) (hm2 : X.mg "range" = none) (he : PE X e (sm X.K cv W (rA X.K) o)) (hg : Gl X "tuple" := by rfl) (hg2 : Gl X "range" := by rfl) (hs : notStar e = true := by rfl) :
    PE X (.Call (.Name "tuple" p) [.Call (.Name "range" p2) [e] [] pos2] [] pos) (sm X.K cv W (rD X.K) (sOne o fTRg)) :=
  (pe_tupRg c.calm hg hm (prg_1 hg2 hm2 he (star_cons hs))).imp fun σ H Q h => (sm.run0 (P := rA X.K) (m := o) h).mono fun v H1 ⟨F2, env2, a, A2, B2, w2, p2, d2, f2⟩ => by
    split at f2
    · rename_i x q
      have t : ∀ c ∈ A2, H1 c ≠ none := st_A.there p2
      have ob := rsv_ok (w2.freeze d2 t) (fun c h => .inl h) (fun c h => .inr h) p2 q
      split at f2
      · rename_i r e
        cases x <;> try (cases e; done)
        simp only [fTRg] at e
        split at e
        · rename_i hz
          cases e
          exact ⟨_, ob.int, ⟨by omega, by omega, by omega, by omega, by omega⟩, fun p hp => Fin.newT hp w2 d2 t f2 fz_rgV⟩
        · cases e
      · exact False.elim f2
    · exact False.elim f2
end
end PV
set_option Elab.async false
set_option linter.all false
set_option maxRecDepth 100000
set_option maxHeartbeats 4000000
namespace PV
open PySem PySem.Spec L2
variable [Tabs]
/-! ## the word of an error's class -/
theorem e_isE (a : Addr) (b : Bool) (r : Env) : sIsE a (oVar 0) b (some (.adr a) :: r) = .ok (.bl b) (some (.adr a) :: r) := by
  simp only [sIsE, oVar, List.getElem?_cons_zero, R.bind, rsv, if_true]
theorem sConsP {s : SE} {rest : SA} {e : Env} {d : D} {as : List Ar} (h : s e = .ok d e) (h2 : rest e = .ok as e) : sCons (oTmp s) rest e = .ok (.tmp d :: as) e := by
  simp only [sCons, oTmp, h, R.bind, h2]
theorem e_pairW (a : Addr) (n : Str) (b : Bool) (r : Env) : sApp (sCons (oTmp (sC (.str n))) (sCons (oTmp (sIsE a (oVar 0) b)) sNil)) fTupD (some (.adr a) :: r) = .ok (.tup [.str n, .bl b]) (some (.adr a) :: r) := by
  have h : sCons (oTmp (sC (.str n))) (sCons (oTmp (sIsE a (oVar 0) b)) sNil) (some (.adr a) :: r) = .ok [.tmp (.str n), .tmp (.bl b)] (some (.adr a) :: r) := sConsP rfl (sConsP (e_isE a b r) rfl)
  simp only [sApp, h, R.bind, rsvs, rsv, Option.map_some, Option.bind_some]
  rfl
theorem told_loop {p0 p1 p2 : Option D} : ∀ (ps : List (Str × Bool)) (x y : Option D) (acc : List D), acc.length + ps.length ≤ 100 → ∃ x' y', lcLoop (tgTup 2 (tgCons (tgName 3) (tgCons (tgName 4) tgNil))) (sTru (oVar 4)) (sVar 3) [3, 4] (ps.map fun p => .tup [.str p.1, .bl p.2]) [p0, p1, p2, x, y] acc =
    .ok (acc ++ (ps.filter (·.2)).map fun p => .str p.1) [p0, p1, p2, x', y']
  | [], x, y, acc, _ => ⟨x, y, by simp [lcLoop]⟩
  | (n, b) :: ps, x, y, acc, hl => by
    have hs : acc.length < sizeLine := Nat.lt_of_lt_of_le (by simp at hl; omega) (by decide : 100 ≤ sizeLine)
    cases b with
    | true =>
      obtain ⟨x', y', h⟩ := told_loop ps (some (.str n)) (some (.bl true)) (acc ++ [.str n]) (by simp at hl ⊢; omega)
      refine ⟨x', y', ?_⟩
      rw [List.map_cons, lcLoop]
      simp only [wipeE, tgTup, tgCons, tgName, tgNil, sTru, oVar, sVar, rsv, truD, R.bind, List.length_cons, List.length_nil, List.getElem?_cons_zero, List.getElem?_cons_succ, List.set_cons_zero, List.set_cons_succ, D.fz, hs, if_true, Nat.reduceAdd, Nat.reduceLT]
      rw [h]
      simp
    | false =>
      obtain ⟨x', y', h⟩ := told_loop ps (some (.str n)) (some (.bl false)) acc (by simp at hl ⊢; omega)
      refine ⟨x', y', ?_⟩
      rw [List.map_cons, lcLoop]
      simp only [wipeE, tgTup, tgCons, tgName, tgNil, sTru, oVar, sVar, rsv, truD, R.bind, List.length_cons, List.length_nil, List.getElem?_cons_zero, List.getElem?_cons_succ, List.set_cons_zero, List.set_cons_succ, D.fz, hs, if_true, Nat.reduceAdd, Nat.reduceLT, Bool.false_eq_true, if_false]
      rw [h]
      simp
def kTold (a : Addr) (s : Nat → Bool) : SE := sLstD (sCons (oTmp (sApp (sCons (oTmp (sC (.str "OutOfRange"))) (sCons (oTmp (sIsE a (oVar 0) (s 1))) sNil)) fTupD)) (sCons (oTmp (sApp (sCons (oTmp (sC (.str "Malformed"))) (sCons (oTmp (sIsE a (oVar 0) (s 2))) sNil)) fTupD)) (sCons (oTmp (sApp (sCons (oTmp (sC (.str "NotThere"))) (sCons (oTmp (sIsE a (oVar 0) (s 3))) sNil)) fTupD)) (sCons (oTmp (sApp (sCons (oTmp (sC (.str "Refused"))) (sCons (oTmp (sIsE a (oVar 0) (s 4))) sNil)) fTupD)) (sCons (oTmp (sApp (sCons (oTmp (sC (.str "TooMuch"))) (sCons (oTmp (sIsE a (oVar 0) (s 5))) sNil)) fTupD)) sNil)))))
def pTold (s : Nat → Bool) : List (Str × Bool) := [("OutOfRange", s 1), ("Malformed", s 2), ("NotThere", s 3), ("Refused", s 4), ("TooMuch", s 5)]
theorem told_k (a : Addr) (s : Nat → Bool) (r : Env) : kTold a s (some (.adr a) :: r) = .ok (.lst true ((pTold s).map fun p => .tup [.str p.1, .bl p.2])) (some (.adr a) :: r) := by
  unfold kTold sLstD
  rw [sConsP (e_pairW a _ _ r) (sConsP (e_pairW a _ _ r) (sConsP (e_pairW a _ _ r) (sConsP (e_pairW a _ _ r) (sConsP (e_pairW a _ _ r) (show sNil (some (.adr a) :: r) = .ok [] (some (.adr a) :: r) from rfl)))))]
  simp only [R.bind, tmps, Option.map_some]
  rfl
def mTold (a : Addr) (s : Nat → Bool) : SS := sSeq (sSet 1 (kTold a s))
    (sSeq (sSet 2 (sLcH 1 (qVar 1) (tgTup 2 (tgCons (tgName 3) (tgCons (tgName 4) tgNil))) (sTru (oVar 4)) (sVar 3) [3, 4]))
    (sSeq (sIf (sOr (sB (sTwo (oTmp (sApp (sCons (oVar 2) sNil) fLen)) (oTmp (sC (.int 1))) fNe)) (sNot (sB (sIsE a (oVar 0) (s 0))))) (sRet (sC (.str "several"))) sSkip)
    (sRet (sTwo (oVar 2) (oTmp (sC (.int 0))) fIx))))
theorem told_fz (ps : List (Str × Bool)) : isFzs (ps.map fun p => D.tup [.str p.1, .bl p.2]) = true := by
  induction ps with
  | nil => rfl
  | cons p ps ih => simp [isFzs, D.isFz, ih]
theorem told_names (a : Addr) (ps : List (Str × Bool)) (hl : ps.length ≤ 100) : sLcH 1 (qVar 1) (tgTup 2 (tgCons (tgName 3) (tgCons (tgName 4) tgNil))) (sTru (oVar 4)) (sVar 3) [3, 4] [some (.adr a), some (.lst true (ps.map fun p => .tup [.str p.1, .bl p.2])), none, none, none] =
    .ok (.lst true ((ps.filter (·.2)).map fun p => .str p.1)) [some (.adr a), some (.lst true (ps.map fun p => .tup [.str p.1, .bl p.2])), none, none, none] := by
  obtain ⟨x, y, h⟩ := told_loop (p0 := some (.adr a)) (p1 := none) (p2 := none) ps none none [] (by simpa using hl)
  have k : keepI 1 [some (.adr a), some (.lst true (ps.map fun p => .tup [.str p.1, .bl p.2])), none, none, none] = [some (.adr a), some (.lst true (ps.map fun p => D.tup [.str p.1, .bl p.2])), none, none, none] := rfl
  simp only [sLcH, List.getElem?_cons_zero, List.getElem?_cons_succ, k, qVar, told_fz, if_true, List.set_cons_zero, List.set_cons_succ, h, R.bind, List.nil_append, restE]
theorem told_one (a : Addr) (s : Nat → Bool) (n : Str) (h : (pTold s).filter (·.2) = [(n, true)]) (h0 : s 0 = true) : mkF 1 5 (fun i => i == 0) (mTold a s) [.adr a] = .ok (.str n) [some (.adr a)] := by
  have m : mTold a s [some (.adr a), none, none, none, none] = .rt (.str n) [some (.adr a), some (.lst true ((pTold s).map fun p => .tup [.str p.1, .bl p.2])), some (.lst true [.str n]), none, none] := by
    simp only [mTold, sSeq, sSet, told_k, R.toS, put, List.length_cons, List.length_nil, List.set_cons_zero, List.set_cons_succ, Nat.reduceAdd, Nat.reduceLT, if_true, RS.thn, told_names a (pTold s) (by simp [pTold]), h, List.map_cons, List.map_nil, h0]
    simp only [e_isE, mkF, sSeq, fEq_int, fNe_int, fEq_bl, fNe_bl, fEq_nn, fNe_nn, and_self, true_and, and_true, nat0, nat1, size_le, size_lt, Nat.zero_le, isFzs_ints, fzs_ints, rwp_ok, rwp_ite, swp_nx, swp_rt, swp_ite, gwp_some, gwp_ite, atI_0, thn_nx, thn_rt, thn_bk, thn_ct, thn_exc, thn_ite, sIf, toS_ok, toS_exc, toS_ite, bind_ok, bind_exc, bind_ite, sRet, sRetN, sSkip, sDrop, sSet, put, sVar, oVar, oTmp, sTwo, sOne, sC, rsv, rsvs, sApp, sCons, sNil, sB, sOr, sAnd, sNot, sNotV, sAndV, sOrV, sIfE, sCh, sIsi, isiTy, D.ty, tmps, sLstD, sQ, qApp, qCons, qNil, qTwo, qVar, qC, qOne, fI, fOr, fOrL, fAdd, fSub, fMul, fMod, fFdiv, fLt, fLe, fGt, fGe, fIs, fIsnt, fIsN, fB, D.isNon, fNeg, fI1, fI2, fInt, fLen, fIxQ, fMaxA, fMinA, fSumA, fSum, fSumT, fMax, fMaxT, fMin, fMinT, lstInts, tupInts, fTup, fLst, fTupD, fIx, iOf, isSeq, aTmps, fRg1_nat, fRg1_lit, fZip, sFor, sYes, sCall, pass, back, sPop, sApnd, sStore, sSl, sNoP, sSomP, fSl, sPar, tgName, tgTup, tgCons, tgNil, sMove, toF_rt, toF_nx, toF_exc, toF_ite, outs, lcStep, wipeE, restE, D.fz, fzs, D.isFz, isFzs, fLRev, Option.map_some, Option.map_none, Option.bind_some, Option.bind_none, Option.orElse_some, Option.orElse_none, Option.orElse, List.getElem?_cons_zero, List.getElem?_cons_succ, List.getElem?_nil, List.length_cons, List.length_nil, List.map_cons, List.map_nil, List.set_cons_zero, List.set_cons_succ, List.replicate_succ, List.replicate_zero, List.cons_append, List.nil_append, Nat.reduceAdd, Nat.reduceSub, Nat.reduceLT, Nat.reduceEqDiff, Nat.reduceLeDiff, Nat.zero_add, if_true, if_false, Bool.false_eq_true, Bool.not_true, Bool.not_false, decide_true, decide_false, Bool.and_true, Bool.true_and, Bool.and_false, Bool.false_and, Bool.or_true, Bool.true_or, Bool.or_false, Bool.false_or, beq_self_eq_true, reduceIte, String.reduceBEq, Nat.reduceBEq, Nat.reduceEqDiff, Int.reduceNeg, Int.reduceLE, Int.reduceLT, Int.reduceEq, decide_eq_true_eq, ite_self, D.int.injEq, ne_eq, reduceCtorEq, not_false_eq_true, not_true_eq_false, Nat.succ_ne_zero]
    try rfl
  simp only [mkF, List.length_cons, List.length_nil, Nat.reduceAdd, if_true, List.map_cons, List.map_nil, Nat.reduceSub, List.replicate_succ, List.replicate_zero, List.cons_append, List.nil_append, m]
  rfl
theorem told_none (a : Addr) (s : Nat → Bool) (h : (pTold s).filter (·.2) = []) : mkF 1 5 (fun i => i == 0) (mTold a s) [.adr a] = .ok (.str "several") [some (.adr a)] := by
  have m : mTold a s [some (.adr a), none, none, none, none] = .rt (.str "several") [some (.adr a), some (.lst true ((pTold s).map fun p => .tup [.str p.1, .bl p.2])), some (.lst true []), none, none] := by
    simp only [mTold, sSeq, sSet, told_k, R.toS, put, List.length_cons, List.length_nil, List.set_cons_zero, List.set_cons_succ, Nat.reduceAdd, Nat.reduceLT, if_true, RS.thn, told_names a (pTold s) (by simp [pTold]), h, List.map_cons, List.map_nil]
    simp only [e_isE, mkF, sSeq, fEq_int, fNe_int, fEq_bl, fNe_bl, fEq_nn, fNe_nn, and_self, true_and, and_true, nat0, nat1, size_le, size_lt, Nat.zero_le, isFzs_ints, fzs_ints, rwp_ok, rwp_ite, swp_nx, swp_rt, swp_ite, gwp_some, gwp_ite, atI_0, thn_nx, thn_rt, thn_bk, thn_ct, thn_exc, thn_ite, sIf, toS_ok, toS_exc, toS_ite, bind_ok, bind_exc, bind_ite, sRet, sRetN, sSkip, sDrop, sSet, put, sVar, oVar, oTmp, sTwo, sOne, sC, rsv, rsvs, sApp, sCons, sNil, sB, sOr, sAnd, sNot, sNotV, sAndV, sOrV, sIfE, sCh, sIsi, isiTy, D.ty, tmps, sLstD, sQ, qApp, qCons, qNil, qTwo, qVar, qC, qOne, fI, fOr, fOrL, fAdd, fSub, fMul, fMod, fFdiv, fLt, fLe, fGt, fGe, fIs, fIsnt, fIsN, fB, D.isNon, fNeg, fI1, fI2, fInt, fLen, fIxQ, fMaxA, fMinA, fSumA, fSum, fSumT, fMax, fMaxT, fMin, fMinT, lstInts, tupInts, fTup, fLst, fTupD, fIx, iOf, isSeq, aTmps, fRg1_nat, fRg1_lit, fZip, sFor, sYes, sCall, pass, back, sPop, sApnd, sStore, sSl, sNoP, sSomP, fSl, sPar, tgName, tgTup, tgCons, tgNil, sMove, toF_rt, toF_nx, toF_exc, toF_ite, outs, lcStep, wipeE, restE, D.fz, fzs, D.isFz, isFzs, fLRev, Option.map_some, Option.map_none, Option.bind_some, Option.bind_none, Option.orElse_some, Option.orElse_none, Option.orElse, List.getElem?_cons_zero, List.getElem?_cons_succ, List.getElem?_nil, List.length_cons, List.length_nil, List.map_cons, List.map_nil, List.set_cons_zero, List.set_cons_succ, List.replicate_succ, List.replicate_zero, List.cons_append, List.nil_append, Nat.reduceAdd, Nat.reduceSub, Nat.reduceLT, Nat.reduceEqDiff, Nat.reduceLeDiff, Nat.zero_add, if_true, if_false, Bool.false_eq_true, Bool.not_true, Bool.not_false, decide_true, decide_false, Bool.and_true, Bool.true_and, Bool.and_false, Bool.false_and, Bool.or_true, Bool.true_or, Bool.or_false, Bool.false_or, beq_self_eq_true, reduceIte, String.reduceBEq, Nat.reduceBEq, Nat.reduceEqDiff, Int.reduceNeg, Int.reduceLE, Int.reduceLT, Int.reduceEq, decide_eq_true_eq, ite_self, D.int.injEq, ne_eq, reduceCtorEq, not_false_eq_true, not_true_eq_false, Nat.succ_ne_zero]
    try rfl
  simp only [mkF, List.length_cons, List.length_nil, Nat.reduceAdd, if_true, List.map_cons, List.map_nil, Nat.reduceSub, List.replicate_succ, List.replicate_zero, List.cons_append, List.nil_append, m]
  rfl
end PV
open PySem PySem.Spec L2 PV
local macro_rules
  | `(tactic| simp? only [$ls,*] $[$l:location]?) => `(tactic| simp only [mkF, sSeq, fEq_int, fNe_int, fEq_bl, fNe_bl, fEq_nn, fNe_nn, and_self, true_and, and_true, nat0, nat1, size_le, size_lt, Nat.zero_le, isFzs_ints, fzs_ints, rwp_ok, rwp_ite, swp_nx, swp_rt, swp_ite, gwp_some, gwp_ite, atI_0, thn_nx, thn_rt, thn_bk, thn_ct, thn_exc, thn_ite, sIf, toS_ok, toS_exc, toS_ite, bind_ok, bind_exc, bind_ite, sRet, sRetN, sSkip, sDrop, sSet, put, sVar, oVar, oTmp, sTwo, sOne, sC, rsv, rsvs, sApp, sCons, sNil, sB, sOr, sAnd, sNot, sNotV, sAndV, sOrV, sIfE, sCh, sIsi, isiTy, D.ty, tmps, sLstD, sQ, qApp, qCons, qNil, qTwo, qVar, qC, qOne, fI, fOr, fOrL, fAdd, fSub, fMul, fMod, fFdiv, fLt, fLe, fGt, fGe, fIs, fIsnt, fIsN, fB, D.isNon, fNeg, fI1, fI2, fInt, fLen, fIxQ, fMaxA, fMinA, fSumA, fSum, fSumT, fMax, fMaxT, fMin, fMinT, lstInts, tupInts, fTup, fLst, fTupD, fIx, iOf, isSeq, aTmps, fRg1_nat, fRg1_lit, fZip, sFor, sYes, sCall, pass, back, sPop, sApnd, sStore, sSl, sNoP, sSomP, fSl, sPar, tgName, tgTup, tgCons, tgNil, sMove, toF_rt, toF_nx, toF_exc, toF_ite, outs, lcStep, wipeE, restE, D.fz, fzs, D.isFz, isFzs, fLRev, Option.map_some, Option.map_none, Option.bind_some, Option.bind_none, Option.orElse_some, Option.orElse_none, Option.orElse, List.getElem?_cons_zero, List.getElem?_cons_succ, List.getElem?_nil, List.length_cons, List.length_nil, List.map_cons, List.map_nil, List.set_cons_zero, List.set_cons_succ, List.replicate_succ, List.replicate_zero, List.cons_append, List.nil_append, Nat.reduceAdd, Nat.reduceSub, Nat.reduceLT, Nat.reduceEqDiff, Nat.reduceLeDiff, Nat.zero_add, if_true, if_false, Bool.false_eq_true, Bool.not_true, Bool.not_false, decide_true, decide_false, Bool.and_true, Bool.true_and, Bool.and_false, Bool.false_and, Bool.or_true, Bool.true_or, Bool.or_false, Bool.false_or, beq_self_eq_true, reduceIte, String.reduceBEq, Nat.reduceBEq, Nat.reduceEqDiff, Int.reduceNeg, Int.reduceLE, Int.reduceLT, Int.reduceEq, decide_eq_true_eq, ite_self, D.int.injEq, ne_eq, reduceCtorEq, not_false_eq_true, not_true_eq_false, Nat.succ_ne_zero, $ls,*] $[$l:location]?)
local macro_rules
  | `(tactic| dsimp? only [$ls,*] $[$l:location]?) => `(tactic| simp only [mkF, sSeq, fEq_int, fNe_int, fEq_bl, fNe_bl, fEq_nn, fNe_nn, and_self, true_and, and_true, nat0, nat1, size_le, size_lt, Nat.zero_le, isFzs_ints, fzs_ints, rwp_ok, rwp_ite, swp_nx, swp_rt, swp_ite, gwp_some, gwp_ite, atI_0, thn_nx, thn_rt, thn_bk, thn_ct, thn_exc, thn_ite, sIf, toS_ok, toS_exc, toS_ite, bind_ok, bind_exc, bind_ite, sRet, sRetN, sSkip, sDrop, sSet, put, sVar, oVar, oTmp, sTwo, sOne, sC, rsv, rsvs, sApp, sCons, sNil, sB, sOr, sAnd, sNot, sNotV, sAndV, sOrV, sIfE, sCh, sIsi, isiTy, D.ty, tmps, sLstD, sQ, qApp, qCons, qNil, qTwo, qVar, qC, qOne, fI, fOr, fOrL, fAdd, fSub, fMul, fMod, fFdiv, fLt, fLe, fGt, fGe, fIs, fIsnt, fIsN, fB, D.isNon, fNeg, fI1, fI2, fInt, fLen, fIxQ, fMaxA, fMinA, fSumA, fSum, fSumT, fMax, fMaxT, fMin, fMinT, lstInts, tupInts, fTup, fLst, fTupD, iOf, isSeq, aTmps, fRg1_nat, fRg1_lit, fZip, sFor, sYes, sCall, pass, back, sPop, sApnd, sStore, sSl, sNoP, sSomP, fSl, sPar, tgName, tgTup, tgCons, tgNil, sMove, toF_rt, toF_nx, toF_exc, toF_ite, outs, lcStep, wipeE, restE, D.fz, fzs, D.isFz, isFzs, fLRev, Option.map_some, Option.map_none, Option.bind_some, Option.bind_none, Option.orElse_some, Option.orElse_none, Option.orElse, List.getElem?_cons_zero, List.getElem?_cons_succ, List.getElem?_nil, List.length_cons, List.length_nil, List.map_cons, List.map_nil, List.set_cons_zero, List.set_cons_succ, List.replicate_succ, List.replicate_zero, List.cons_append, List.nil_append, Nat.reduceAdd, Nat.reduceSub, Nat.reduceLT, Nat.reduceEqDiff, Nat.reduceLeDiff, Nat.zero_add, if_true, if_false, Bool.false_eq_true, Bool.not_true, Bool.not_false, decide_true, decide_false, Bool.and_true, Bool.true_and, Bool.and_false, Bool.false_and, Bool.or_true, Bool.true_or, Bool.or_false, Bool.false_or, beq_self_eq_true, reduceIte, String.reduceBEq, Nat.reduceBEq, Nat.reduceEqDiff, Int.reduceNeg, Int.reduceLE, Int.reduceLT, Int.reduceEq, decide_eq_true_eq, ite_self, D.int.injEq, ne_eq, reduceCtorEq, not_false_eq_true, not_true_eq_false, Nat.succ_ne_zero, $ls,*] $[$l:location]?)
local macro_rules
  | `(tactic| dsimp?! only [$ls,*] $[$l:location]?) => `(tactic| simp only [mkF, sSeq, fEq_int, fNe_int, fEq_bl, fNe_bl, fEq_nn, fNe_nn, and_self, true_and, and_true, nat0, nat1, size_le, size_lt, Nat.zero_le, isFzs_ints, fzs_ints, rwp_ok, rwp_ite, swp_nx, swp_rt, swp_ite, gwp_some, gwp_ite, atI_0, thn_nx, thn_rt, thn_bk, thn_ct, thn_exc, thn_ite, sIf, toS_ok, toS_exc, toS_ite, bind_ok, bind_exc, bind_ite, sRet, sRetN, sSkip, sDrop, sSet, put, sVar, oVar, oTmp, sTwo, sOne, sC, rsv, rsvs, sApp, sCons, sNil, sB, sOr, sAnd, sNot, sNotV, sAndV, sOrV, sIfE, sCh, sIsi, isiTy, D.ty, tmps, sLstD, sQ, qApp, qCons, qNil, qTwo, qVar, qC, qOne, fI, fOr, fOrL, fAdd, fSub, fMul, fMod, fFdiv, fLt, fLe, fGt, fGe, fIs, fIsnt, fIsN, fB, D.isNon, fNeg, fI1, fI2, fInt, fLen, fMaxA, fMinA, fSumA, fSum, fSumT, fMax, fMaxT, fMin, fMinT, lstInts, tupInts, fTup, fLst, fTupD, iOf, isSeq, aTmps, fRg1_nat, fRg1_lit, fZip, sFor, sYes, sCall, pass, back, sPop, sApnd, sStore, sSl, sNoP, sSomP, fSl, sPar, tgName, tgTup, tgCons, tgNil, sMove, toF_rt, toF_nx, toF_exc, toF_ite, outs, lcStep, wipeE, restE, D.fz, fzs, D.isFz, isFzs, fLRev, Option.map_some, Option.map_none, Option.bind_some, Option.bind_none, Option.orElse_some, Option.orElse_none, Option.orElse, List.getElem?_cons_zero, List.getElem?_cons_succ, List.getElem?_nil, List.length_cons, List.length_nil, List.map_cons, List.map_nil, List.set_cons_zero, List.set_cons_succ, List.replicate_succ, List.replicate_zero, List.cons_append, List.nil_append, Nat.reduceAdd, Nat.reduceSub, Nat.reduceLT, Nat.reduceEqDiff, Nat.reduceLeDiff, Nat.zero_add, if_true, if_false, Bool.false_eq_true, Bool.not_true, Bool.not_false, decide_true, decide_false, Bool.and_true, Bool.true_and, Bool.and_false, Bool.false_and, Bool.or_true, Bool.true_or, Bool.or_false, Bool.false_or, beq_self_eq_true, reduceIte, String.reduceBEq, Nat.reduceBEq, Nat.reduceEqDiff, Int.reduceNeg, Int.reduceLE, Int.reduceLT, Int.reduceEq, decide_eq_true_eq, ite_self, D.int.injEq, ne_eq, reduceCtorEq, not_false_eq_true, not_true_eq_false, Nat.succ_ne_zero, $ls,*] $[$l:location]?)
local macro_rules
  | `(tactic| simp?! only [$ls,*] $[$l:location]?) => `(tactic| simp only [mkF, sSeq, fEq_int, fNe_int, fEq_bl, fNe_bl, fEq_nn, fNe_nn, and_self, true_and, and_true, nat0, nat1, size_le, size_lt, Nat.zero_le, isFzs_ints, fzs_ints, rwp_ok, rwp_ite, swp_nx, swp_rt, swp_ite, gwp_some, gwp_ite, atI_0, thn_nx, thn_rt, thn_bk, thn_ct, thn_exc, thn_ite, sIf, toS_ok, toS_exc, toS_ite, bind_ok, bind_exc, bind_ite, sRet, sRetN, sSkip, sDrop, sSet, put, sVar, oVar, oTmp, sTwo, sOne, sC, rsv, rsvs, sApp, sCons, sNil, sB, sOr, sAnd, sNot, sNotV, sAndV, sOrV, sIfE, sCh, sIsi, isiTy, D.ty, tmps, sLstD, sQ, qApp, qCons, qNil, qTwo, qVar, qC, qOne, fI, fOr, fOrL, fAdd, fSub, fMod, fFdiv, fLt, fLe, fGt, fGe, fIs, fIsnt, fIsN, fB, D.isNon, fNeg, fI1, fI2, fInt, fLen, fIxQ, fMaxA, fMinA, fSumA, fSum, fSumT, fMax, fMaxT, fMin, fMinT, lstInts, tupInts, fTup, fLst, fTupD, fIx, iOf, isSeq, aTmps, fRg1_nat, fRg1_lit, fZip, sFor, sYes, sCall, pass, back, sPop, sApnd, sStore, sSl, sNoP, sSomP, fSl, sPar, tgName, tgTup, tgCons, tgNil, sMove, toF_rt, toF_nx, toF_exc, toF_ite, outs, lcStep, wipeE, restE, D.fz, fzs, D.isFz, isFzs, fLRev, Option.map_some, Option.map_none, Option.bind_some, Option.bind_none, Option.orElse_some, Option.orElse_none, Option.orElse, List.getElem?_cons_zero, List.getElem?_cons_succ, List.getElem?_nil, List.length_cons, List.length_nil, List.map_cons, List.map_nil, List.set_cons_zero, List.set_cons_succ, List.replicate_succ, List.replicate_zero, List.cons_append, List.nil_append, Nat.reduceAdd, Nat.reduceSub, Nat.reduceLT, Nat.reduceEqDiff, Nat.reduceLeDiff, Nat.zero_add, if_true, if_false, Bool.false_eq_true, Bool.not_true, Bool.not_false, decide_true, decide_false, Bool.and_true, Bool.true_and, Bool.and_false, Bool.false_and, Bool.or_true, Bool.true_or, Bool.or_false, Bool.false_or, beq_self_eq_true, reduceIte, String.reduceBEq, Nat.reduceBEq, Nat.reduceEqDiff, Int.reduceNeg, Int.reduceLE, Int.reduceLT, Int.reduceEq, decide_eq_true_eq, ite_self, D.int.injEq, ne_eq, reduceCtorEq, not_false_eq_true, not_true_eq_false, Nat.succ_ne_zero, $ls,*] $[$l:location]?)
set_option Elab.async false
set_option linter.all false
set_option maxRecDepth 100000
set_option maxHeartbeats 4000000
namespace LM
open PySem PySem.Spec L2 PV
def DL (ns : List Int) : D := .lst true (ns.map .int)
def tkN (ns : List Int) (b : Int) : Int := if ns = [] then 0 else (ns.getLastD 0).fmod b
theorem popI {ns : List Int} (h : ns ≠ []) : popL (ns.map D.int) = some (ns.dropLast.map D.int, .int (ns.getLastD 0)) := by
  have e := List.dropLast_concat_getLast h
  have : ns.getLastD 0 = ns.getLast h := by rw [List.getLastD_eq_getLast?, List.getLast?_eq_some_getLast h]; rfl
  rw [this]
  conv => lhs; rw [← e]
  rw [List.map_append, List.map_cons, List.map_nil, popL_snoc]
theorem tk_lo {ns : List Int} {b : Int} (hb : 0 < b) : 0 ≤ tkN ns b := by
  unfold tkN
  split
  · omega
  · exact Int.fmod_nonneg_of_pos _ hb
theorem tk_hi {ns : List Int} {b : Int} (hb : 0 < b) : tkN ns b < b := by
  unfold tkN
  split
  · omega
  · exact Int.fmod_lt_of_pos _ hb
def isI : D → Bool
  | .int _ => true
  | _ => false
def tI (r : List Int) : D := .tup (r.map .int)
def SY (rows : List (List Int)) : D := .tup (rows.map tI)
theorem fz_tI (r : List Int) : (tI r).fz = tI r := by simp only [tI, D.fz, fzs_ints]
theorem isFz_tI (r : List Int) : (tI r).isFz = true := by simp only [tI, D.isFz, isFzs_ints]
theorem fzs_tI (rows : List (List Int)) : fzs (rows.map tI) = rows.map tI := by
  rw [fzs_map, List.map_map]
  apply List.map_congr_left
  intro r _
  exact fz_tI r
theorem isFzs_tI (rows : List (List Int)) : isFzs (rows.map tI) = true := by
  rw [isFzs_all, List.all_eq_true]
  intro d hd
  obtain ⟨r, _, rfl⟩ := List.mem_map.mp hd
  exact isFz_tI r
theorem fz_SY (rows : List (List Int)) : (SY rows).fz = SY rows := by simp only [SY, D.fz, fzs_tI]
theorem isFz_SY (rows : List (List Int)) : (SY rows).isFz = true := by simp only [SY, D.isFz, isFzs_tI]
theorem isI_ints (ns : List Int) : (ns.map D.int).all isI = true := by
  rw [List.all_eq_true]
  intro d hd
  obtain ⟨r, _, rfl⟩ := List.mem_map.mp hd
  rfl
theorem lstInts_ints {o : Bool} (ns : List Int) : lstInts (.lst o (ns.map D.int)) = some ns := by simp only [lstInts, isFzs_ints, intsOf_ints, if_true]
theorem ai_ints {l : List D} (h : l.all isI = true) : ∃ ns : List Int, l = ns.map D.int := by
  induction l with
  | nil => exact ⟨[], rfl⟩
  | cons d l ih =>
    rw [List.all_cons, Bool.and_eq_true] at h
    obtain ⟨ns, rfl⟩ := ih h.2
    cases d with
    | int i => exact ⟨i :: ns, rfl⟩
    | _ => simp [isI] at h
theorem ints_of {P : Int → Prop} {ys : List D} (h : ∀ y ∈ ys, ∃ x, y = .int x ∧ P x) : ∃ r : List Int, ys = r.map D.int ∧ ∀ x ∈ r, P x := by
  induction ys with
  | nil => exact ⟨[], rfl, by simp⟩
  | cons y ys ih =>
    obtain ⟨r, rfl, h2⟩ := ih fun y hy => h y (by simp [hy])
    obtain ⟨x, rfl, h3⟩ := h y (by simp)
    exact ⟨x :: r, rfl, by simpa using ⟨h3, h2⟩⟩
theorem isFz_DL (ns : List Int) : (DL ns).isFz = false := by simp [DL, D.isFz]
def FL (r : List Int) : D := .lst false (r.map D.int)
theorem fzs_DL (rows : List (List Int)) : fzs (rows.map DL) = rows.map FL := by
  rw [fzs_map, List.map_map]
  apply List.map_congr_left
  intro r _
  simp only [Function.comp, DL, FL, D.fz, fzs_ints]
theorem fzs_FL (rows : List (List Int)) : fzs (rows.map FL) = rows.map FL := by
  rw [fzs_map, List.map_map]
  apply List.map_congr_left
  intro r _
  simp only [Function.comp, FL, D.fz, fzs_ints]
theorem cutTo {l : List D} {v : Int} (h : 0 ≤ v) : cutD l none (some v) = l.take v.toNat := by
  have e : HT.sIx l.length l.length (some v) = min v.toNat l.length := by
    simp only [HT.sIx]
    rw [if_neg (by omega)]
  unfold cutD
  rw [e]
  show List.take (min v.toNat l.length - 0) (List.drop 0 l) = _
  simp only [List.drop_zero, Nat.sub_zero]
  rw [List.take_eq_take_iff]
  omega
theorem cutM1 {l : List D} : cutD l none (some (-1)) = l.dropLast := by
  have e : HT.sIx l.length l.length (some (-1)) = l.length - 1 := by
    simp only [HT.sIx]
    rw [if_pos (by omega)]
    omega
  unfold cutD
  rw [e]
  show List.take (l.length - 1 - 0) (List.drop 0 l) = _
  simp [List.dropLast_eq_take]
theorem cutF1 {d : D} {l : List D} : cutD (d :: l) (some 1) none = l := by
  have e : HT.sIx (l.length + 1) 0 (some 1) = 1 := by
    simp only [HT.sIx]
    rw [if_neg (by omega)]
    simp
  unfold cutD
  simp only [List.length_cons]
  rw [e]
  show List.take (l.length + 1 - 1) (List.drop 1 (d :: l)) = _
  simp
theorem cutD1 {l : List D} (h : 1 ≤ l.length) : cutD l (some 1) none = l.drop 1 := by
  cases l with
  | nil => simp at h
  | cons d l => rw [cutF1]; rfl
theorem isFzs_app {l m : List D} : isFzs (l ++ m) = (isFzs l && isFzs m) := by
  induction l with
  | nil => rfl
  | cons d l ih => simp [isFzs, ih, Bool.and_assoc]
theorem isFzs_dl (r : List Int) : isFzs (r.map D.int).dropLast = true := by rw [← List.map_dropLast]; exact isFzs_ints _
theorem fzs_app {l m : List D} : fzs (l ++ m) = fzs l ++ fzs m := by
  induction l with
  | nil => rfl
  | cons d l ih => simp [fzs, ih]
theorem fzs_dl (r : List Int) : fzs (r.map D.int).dropLast = (r.map D.int).dropLast := by rw [← List.map_dropLast]; exact fzs_ints _
theorem repT {l : List D} {n : Nat} (hn : n ≤ 1000) (h : l.length ≤ 1000) : fRepT (.tup l) (.int n) = some (.tup (List.replicate n l).flatten) := by
  unfold fRepT
  simp only []
  rw [if_pos (by simp only [Bool.and_eq_true, decide_eq_true_eq]; omega)]
  rfl
theorem fz_flat {l : List D} (h : isFzs l = true) : ∀ n : Nat, isFzs (List.replicate n l).flatten = true
  | 0 => rfl
  | n + 1 => by rw [List.replicate_succ, List.flatten_cons, isFzs_app, h, fz_flat h n]; rfl
theorem repT' {l : List D} {n : Nat} (hn : n ≤ 1000) (h : l.length ≤ 1000) (hf : isFzs l = true) : ∃ m, fRepT (.tup l) (.int n) = some (.tup m) ∧ m.length = n * l.length ∧ isFzs m = true ∧ fzs m = m :=
  ⟨_, repT hn h, by simp, fz_flat hf n, fzs_of _ (fz_flat hf n)⟩
theorem catL {a b : Bool} {l m : List D} (hl : isFzs l = true) (hm : isFzs m = true) (h : l.length + m.length ≤ 1000) : fCatL (.lst a l) (.lst b m) = some (.lst true (l ++ m)) := by
  have z : l.length + m.length ≤ sizeLine := by rw [size_eq]; omega
  simp [fCatL, hl, hm, z]
theorem eqvAll_ints (l : List Int) : PyData.eqvAll (pys (l.map D.int)) (pys (l.map D.int)) = true := by
  induction l with
  | nil => rfl
  | cons x l ih => simp [pys, PyData.eqvAll, D.py, PyData.eqv, ih]
theorem fEq_lay {a b : D} (ha : a.lay 60) (hb : b.lay 60) : fEq a b = some (.bl (PyData.eqv a.py b.py)) := by
  unfold fEq
  rw [okEq_of ha, okEq_of hb]
  rfl
theorem fNin_lst {x : D} {o : Bool} {l : List D} (hx : x.lay 60) (hl : ∀ d ∈ l, d.lay 60) : fNin x (.lst o l) = some (.bl (!((pys l).any fun z => PyData.eqv z x.py))) := by
  have a : okEq x = true := okEq_of hx
  have b : SeqAt.shaped (.list (pys l)) = true := okEq_of (d := .lst o l) (lay_lst hl)
  have c : fInT true x (.lst o l) = none := by cases x <;> rfl
  have d : fInL true x (.lst o l) = some (.bl (!((pys l).any fun z => PyData.eqv z x.py))) := by cases x <;> simp [fInL, a, b]
  simp [fNin, fOr, c, d]
theorem lay_str {i : Str} {n : Nat} (h : PyData.strOk i = true := by decide +kernel) : (D.str i).lay n := ⟨by simp [D.py, PyData.canLay0, h], by simp [D.py, PyData.depth]⟩
theorem lay_dl (r : List Int) {n : Nat} : ∀ d ∈ (r.map D.int).dropLast, d.lay n := by rw [← List.map_dropLast]; exact lay_ints
theorem lay_app {l m : List D} {n : Nat} (h1 : ∀ d ∈ l, d.lay n) (h2 : ∀ d ∈ m, d.lay n) : ∀ d ∈ l ++ m, d.lay n := by
  intro d hd
  rcases List.mem_append.mp hd with hd | hd
  · exact h1 d hd
  · exact h2 d hd
theorem lay_one {d : D} {n : Nat} (h : d.lay n) : ∀ x ∈ [d], x.lay n := by
  intro x hx
  rw [List.mem_singleton] at hx
  rw [hx]; exact h
theorem isFzs_d1 (r : List Int) : isFzs ((r.map D.int).drop 1) = true := by rw [← List.map_drop]; exact isFzs_ints _
theorem fzs_d1 (r : List Int) : fzs ((r.map D.int).drop 1) = (r.map D.int).drop 1 := by rw [← List.map_drop]; exact fzs_ints _
theorem fzs_list {l : List D} (h : ∀ d ∈ l, d.isFz = true) : isFzs l = true := by rw [isFzs_all, List.all_eq_true]; exact h
theorem fm_none (l : List D) : l.filterMap (fun _ => (none : Option D)) = [] := by induction l <;> simp [*]
theorem wLcI {it : SI} {g : GT} {c : SM Bool} {el : SE} {vs : List Nat} {e : PV.Env} {z : R D} (hz : sLc it g c el vs e = z) {e1 : PV.Env} {ds : List D} (I : PV.Env → Prop) (P : D → Prop) (hi : it e = .ok ds e1) (h0 : I e1) (h : ∀ d ∈ ds, ∀ e, I e → (lcStep g c el d (wipeE e vs)).wp fun o e3 => (∃ y, o = some y ∧ P y) ∧ I e3) (hl : ds.length ≤ sizeLine) :
    ∃ ys e', z = .ok (.lst true ys) (restE e1 e' vs) ∧ ys.length = ds.length ∧ (∀ y ∈ ys, P y) ∧ I e' := by
  obtain ⟨ys, e', h1, h2⟩ := wLc_inv (g := g) (c := c) (el := el) I P hi h0 h hl
  exact ⟨ys, e', by rw [← hz, h1], h2⟩
theorem at3 {a b c t : Int} (h0 : 0 ≤ t) (h3 : t < 3) : atI [D.int a, .int b, .int c] t = some (.int (if t = 0 then a else if t = 1 then b else c)) := by
  have : t = 0 ∨ t = 1 ∨ t = 2 := by omega
  rcases this with rfl | rfl | rfl <;> rfl
theorem tI_fold (ns : List Int) : D.tup (ns.map D.int) = tI ns := rfl
theorem minI_ge {b : Int} : ∀ (ns : List Int) (m : Int), b ≤ m → (∀ x ∈ ns, b ≤ x) → b ≤ minI m ns
  | [], m, h, _ => h
  | n :: ns, m, h, h' => minI_ge ns (min m n) (by have := h' n (by simp); omega) fun x hx => h' x (by simp [hx])
theorem minI_le : ∀ (ns : List Int) (m x : Int), x ∈ m :: ns → minI m ns ≤ x
  | [], m, x, h => by simp at h; simp [minI, h]
  | n :: ns, m, x, h => by
    have a := minI_le ns (min m n)
    have a0 := a (min m n) (by simp)
    show minI (min m n) ns ≤ x
    rcases List.mem_cons.mp h with rfl | h
    · omega
    · rcases List.mem_cons.mp h with rfl | h
      · omega
      · exact a x (by simp [h])
theorem maxI_le {b : Int} : ∀ (ns : List Int) (m : Int), m ≤ b → (∀ x ∈ ns, x ≤ b) → maxI m ns ≤ b
  | [], m, h, _ => h
  | n :: ns, m, h, h' => maxI_le ns (max m n) (by have := h' n (by simp); omega) fun x hx => h' x (by simp [hx])
theorem back_fz (d : D) (h : d.isFz = true) (i : Nat) (e1 e2 : PV.Env) (os : PV.Env) (he : e1[i]? = some (some d)) : back [.slot i] e1 os e2 = e2 := by
  cases os with
  | nil => rfl
  | cons o os => simp [back, he, h]
theorem back_t3 (a b c : D) (e r : PV.Env) (os : PV.Env) : back [.tmp a, .tmp b, .tmp c] e os r = r := by
  rcases os with _ | ⟨x, _ | ⟨y, _ | ⟨z, w⟩⟩⟩ <;> rfl
end LM
set_option Elab.async false
set_option linter.all false
set_option maxRecDepth 100000
set_option maxHeartbeats 4000000
namespace LM
open PySem PySem.Spec L2 PV
/-! ### sizes -/
theorem bits_le {x : Int} {n : Nat} (h : x.natAbs < 2 ^ n) : Builtin.Int.intBits x ≤ n := by
  unfold Builtin.Int.intBits
  split
  · omega
  · rename_i q
    have h0 : x.natAbs ≠ 0 := by simpa using q
    have := (Nat.log2_lt h0).mpr h
    omega
theorem mulB {x y : Int} {m n : Nat} (hx : x.natAbs < 2 ^ m) (hy : y.natAbs < 2 ^ n) (h : m + n ≤ 100000) : mulOk x y = true := by
  have h1 := bits_le hx
  have h2 := bits_le hy
  unfold mulOk Builtin.Int.intTooBig
  have e : bitsLine = 134217728 := rfl
  have : decide ((((Builtin.Int.intBits x + Builtin.Int.intBits y : Nat) : Int)) > ((bitsLine : Nat) : Int)) = false := decide_eq_false (by rw [e]; omega)
  have h3 : decide (((Builtin.Int.intBits x : Int) + (Builtin.Int.intBits y : Int)) > ((bitsLine : Nat) : Int)) = false := decide_eq_false (by rw [e]; omega)
  first
    | rw [this, Bool.and_false]; rfl
    | rw [h3, Bool.and_false]; rfl
theorem divB {x y : Int} {n : Nat} (h0 : y ≠ 0) (h : y.natAbs < 2 ^ n) (hn : n ≤ 9000) : divOk x y = true := by
  unfold divOk Builtin.divisionGoesByPylong
  have h1 : (y == 0) = false := by simpa using h0
  have : y.natAbs.log2 < n := (Nat.log2_lt (by omega)).mpr h
  simp only [h1, h0, ne_eq, not_false_eq_true, decide_true, Bool.true_and]
  have h2 : decide (y.natAbs.log2 / 30 + 1 > 300) = false := decide_eq_false (by omega)
  simp [h2]
/-! ### fractions -/
abbrev Fr := Int × Int
def FR (p : Fr) : D := .tup [.int p.1, .int p.2]
def gz (a b : Int) : Int := if b < 0 then -((Nat.gcd a.natAbs b.natAbs : Nat) : Int) else ((Nat.gcd a.natAbs b.natAbs : Nat) : Int)
def low (a b : Int) : Fr := (a.fdiv (gz a b), b.fdiv (gz a b))
theorem gcd_pos {a b : Int} (h : b ≠ 0) : 0 < Nat.gcd a.natAbs b.natAbs := Nat.gcd_pos_of_pos_right _ (by omega)
theorem gz_ne {a b : Int} (h : b ≠ 0) : gz a b ≠ 0 := by
  have := gcd_pos (a := a) h
  unfold gz
  split <;> omega
theorem gz_abs {a b : Int} : (gz a b).natAbs = Nat.gcd a.natAbs b.natAbs := by
  unfold gz
  split <;> simp
theorem gz_lt {a b : Int} {n : Nat} (h : b ≠ 0) (hb : b.natAbs < 2 ^ n) : (gz a b).natAbs < 2 ^ n := by
  rw [gz_abs]
  exact Nat.lt_of_le_of_lt (Nat.gcd_le_right _ (by omega)) hb
/-- sizes of a fraction -/
def bf (n : Nat) (p : Fr) : Prop := p.1.natAbs < 2 ^ n ∧ p.2.natAbs < 2 ^ n ∧ 0 < p.2
def cano (p : Fr) : Prop := 0 < p.2 ∧ Nat.gcd p.1.natAbs p.2.natAbs = 1
theorem bf_mono {m n : Nat} {p : Fr} (h : bf m p) (hmn : m ≤ n) : bf n p := by
  have := Nat.pow_le_pow_right (show 0 < 2 by decide) hmn
  exact ⟨by have := h.1; omega, by have := h.2.1; omega, h.2.2⟩
theorem gz_pos {a b : Int} (h : 0 < b) : gz a b = ((Nat.gcd a.natAbs b.natAbs : Nat) : Int) := by
  unfold gz
  rw [if_neg (by omega)]
theorem low_pos {a b : Int} (h : 0 < b) : low a b = (a / ((Nat.gcd a.natAbs b.natAbs : Nat) : Int), b / ((Nat.gcd a.natAbs b.natAbs : Nat) : Int)) := by
  unfold low
  rw [gz_pos h, Int.fdiv_eq_ediv_of_nonneg _ (by omega), Int.fdiv_eq_ediv_of_nonneg _ (by omega)]
theorem low_spec {a b : Int} (h : 0 < b) : ∃ g : Int, 0 < g ∧ a = g * (low a b).1 ∧ b = g * (low a b).2 ∧ cano (low a b) := by
  have hg := gcd_pos (a := a) (b := b) (by omega)
  refine ⟨((Nat.gcd a.natAbs b.natAbs : Nat) : Int), by omega, ?_, ?_, ?_⟩
  · rw [low_pos h]
    exact (Int.mul_ediv_cancel' (Int.ofNat_dvd_left.mpr (Nat.gcd_dvd_left _ _))).symm
  · rw [low_pos h]
    exact (Int.mul_ediv_cancel' (Int.ofNat_dvd_left.mpr (Nat.gcd_dvd_right _ _))).symm
  · rw [low_pos h]
    constructor
    · show 0 < b / _
      have hd : ((Nat.gcd a.natAbs b.natAbs : Nat) : Int) ∣ b := Int.ofNat_dvd_left.mpr (Nat.gcd_dvd_right _ _)
      exact Int.ediv_pos_of_pos_of_dvd h (by omega) hd
    · show Nat.gcd (a / _).natAbs (b / _).natAbs = 1
      rw [Int.natAbs_ediv_of_dvd (Int.ofNat_dvd_left.mpr (Nat.gcd_dvd_left _ _)), Int.natAbs_ediv_of_dvd (Int.ofNat_dvd_left.mpr (Nat.gcd_dvd_right _ _))]
      exact Nat.gcd_div_gcd_div_gcd_of_pos_right (by omega)
theorem bf_low {a b : Int} {n : Nat} (h : 0 < b) (ha : a.natAbs < 2 ^ n) (hb : b.natAbs < 2 ^ n) : bf n (low a b) := by
  obtain ⟨g, g0, e1, e2, c⟩ := low_spec (a := a) h
  have k1 : (low a b).1.natAbs ≤ a.natAbs := by
    conv => rhs; rw [e1]
    rw [Int.natAbs_mul]
    exact Nat.le_mul_of_pos_left _ (by omega)
  have k2 : (low a b).2.natAbs ≤ b.natAbs := by
    conv => rhs; rw [e2]
    rw [Int.natAbs_mul]
    exact Nat.le_mul_of_pos_left _ (by omega)
  exact ⟨by omega, by omega, c.1⟩
theorem mul_lt {x y : Int} {m n : Nat} (hx : x.natAbs < 2 ^ m) (hy : y.natAbs < 2 ^ n) : (x * y).natAbs < 2 ^ (m + n) := by
  rw [Int.natAbs_mul, Nat.pow_add]
  exact Nat.mul_lt_mul'' hx hy
theorem add_lt {x y : Int} {n : Nat} (hx : x.natAbs < 2 ^ n) (hy : y.natAbs < 2 ^ n) : (x + y).natAbs < 2 ^ (n + 1) := by
  rw [Nat.pow_succ]
  omega
theorem sub_lt' {x y : Int} {n : Nat} (hx : x.natAbs < 2 ^ n) (hy : y.natAbs < 2 ^ n) : (x - y).natAbs < 2 ^ (n + 1) := by
  rw [Nat.pow_succ]
  omega
def plusF (p q : Fr) : Fr := low (p.1 * q.2 + q.1 * p.2) (p.2 * q.2)
def minusF (p q : Fr) : Fr := low (p.1 * q.2 - q.1 * p.2) (p.2 * q.2)
def timesF (p q : Fr) : Fr := low (p.1 * q.1) (p.2 * q.2)
theorem up1 {x : Int} {n : Nat} (h : x.natAbs < 2 ^ n) : x.natAbs < 2 ^ (n + 1) := by rw [Nat.pow_succ]; omega
theorem bf_plus {m n : Nat} {p q : Fr} (hp : bf m p) (hq : bf n q) : bf (m + n + 1) (plusF p q) := by
  have h1 := mul_lt hp.1 hq.2.1
  have h2 := mul_lt hq.1 hp.2.1
  have h3 := mul_lt hp.2.1 hq.2.1
  rw [Nat.add_comm n m] at h2
  exact bf_low (Int.mul_pos hp.2.2 hq.2.2) (add_lt h1 h2) (up1 h3)
theorem bf_minus {m n : Nat} {p q : Fr} (hp : bf m p) (hq : bf n q) : bf (m + n + 1) (minusF p q) := by
  have h1 := mul_lt hp.1 hq.2.1
  have h2 := mul_lt hq.1 hp.2.1
  have h3 := mul_lt hp.2.1 hq.2.1
  rw [Nat.add_comm n m] at h2
  exact bf_low (Int.mul_pos hp.2.2 hq.2.2) (sub_lt' h1 h2) (up1 h3)
theorem bf_times {m n : Nat} {p q : Fr} (hp : bf m p) (hq : bf n q) : bf (m + n) (timesF p q) :=
  bf_low (Int.mul_pos hp.2.2 hq.2.2) (mul_lt hp.1 hq.1) (mul_lt hp.2.1 hq.2.1)
theorem cano_low {a b : Int} (h : 0 < b) : cano (low a b) := (low_spec h).choose_spec.2.2.2
/-! ### plain data -/
mutual
def D.plain : D → Bool
  | .lst o l => !o && plains l
  | .tup l => plains l
  | .scr l => plains l
  | .adr _ => false
  | _ => true
def plains : List D → Bool
  | [] => true
  | d :: l => D.plain d && plains l
end
mutual
theorem plain_fz : ∀ d : D, D.plain d = true → d.isFz = true
  | .lst o l, h => by
    simp only [D.plain, Bool.and_eq_true] at h
    simp only [D.isFz, Bool.and_eq_true]
    exact ⟨h.1, plains_fz l h.2⟩
  | .tup l, h => by
    simp only [D.plain] at h
    exact plains_fz l h
  | .scr l, h => by
    simp only [D.plain] at h
    exact plains_fz l h
  | .non, _ => rfl
  | .bl _, _ => rfl
  | .int _, _ => rfl
  | .str _, _ => rfl
  | .adr _, h => by simp [D.plain] at h
theorem plains_fz : ∀ l : List D, plains l = true → isFzs l = true
  | [], _ => rfl
  | d :: l, h => by
    simp only [plains, Bool.and_eq_true] at h
    simp only [isFzs, plain_fz d h.1, plains_fz l h.2, Bool.and_self]
end
theorem plains_all (l : List D) : plains l = l.all D.plain := by
  induction l with
  | nil => rfl
  | cons d l ih => simp [plains, ih]
theorem plains_mem {l : List D} (h : plains l = true) {d : D} (hd : d ∈ l) : D.plain d = true := by
  rw [plains_all, List.all_eq_true] at h
  exact h d hd
theorem plains_of {l : List D} (h : ∀ d ∈ l, D.plain d = true) : plains l = true := by
  rw [plains_all, List.all_eq_true]
  exact h
theorem wGenA {it : SI} {g : GT} {c : SM Bool} {el : SE} {vs : List Nat} {e e1 : PV.Env} {ds : List D} (f : D → Bool) (hi : it e = .ok ds e1) (h : ∀ d ∈ ds, (lcStep g c el d (wipeE e1 vs)).wp fun o e3 => o = some (.bl (f d)) ∧ wipeE e3 vs = wipeE e1 vs) :
    sGen true it g c el vs e = .ok (.bl (ds.any f)) (restE e1 (wipeE e1 vs) vs) := by
  rw [sGen_all f hi fun d hd => by
      obtain ⟨a, e3, h1, rfl, h2⟩ := (h d hd).ex
      exact ⟨e3, h1, h2⟩]
  have : ds.any (fun d => f d == true) = ds.any f := by congr 1; funext d; cases f d <;> rfl
  rw [this]
  cases ds.any f <;> rfl
theorem FR_fz (p : Fr) : (FR p).isFz = true := rfl
theorem FR_f (p : Fr) : (FR p).fz = FR p := rfl
theorem atF0 (p : Fr) : atI [D.int p.1, .int p.2] 0 = some (.int p.1) := rfl
theorem atF1 (p : Fr) : atI [D.int p.1, .int p.2] 1 = some (.int p.2) := rfl
def lessF (p q : Fr) : Bool := decide (p.1 * q.2 < q.1 * p.2)
theorem absZ (a : Int) : (if a < 0 then -a else a) = ((a.natAbs : Nat) : Int) := by split <;> omega
def NO : Fr := (0, 1)
def ON : Fr := (1, 1)
theorem bf_NO : bf 1 NO := by refine ⟨?_, ?_, ?_⟩ <;> decide
theorem bf_ON : bf 1 ON := by refine ⟨?_, ?_, ?_⟩ <;> decide
def FT (ps : List Fr) : D := .tup (ps.map FR)
def FM (rows : List (List Fr)) : D := .tup (rows.map FT)
theorem plain_FR (p : Fr) : D.plain (FR p) = true := rfl
theorem plains_FR (ps : List Fr) : plains (ps.map FR) = true := plains_of fun d hd => by
  obtain ⟨p, _, rfl⟩ := List.mem_map.mp hd
  rfl
theorem plain_FT (ps : List Fr) : D.plain (FT ps) = true := by simp only [FT, D.plain, plains_FR]
theorem plains_FT (rows : List (List Fr)) : plains (rows.map FT) = true := plains_of fun d hd => by
  obtain ⟨p, _, rfl⟩ := List.mem_map.mp hd
  exact plain_FT p
theorem plain_FM (rows : List (List Fr)) : D.plain (FM rows) = true := by simp only [FM, D.plain, plains_FT]
theorem zFR (ps : List Fr) : isFzs (ps.map FR) = true := plains_fz _ (plains_FR ps)
theorem fFR (ps : List Fr) : fzs (ps.map FR) = ps.map FR := fzs_of _ (zFR ps)
theorem zFT (rows : List (List Fr)) : isFzs (rows.map FT) = true := plains_fz _ (plains_FT rows)
theorem fFT (rows : List (List Fr)) : fzs (rows.map FT) = rows.map FT := fzs_of _ (zFT rows)
def sumF (ps : List Fr) : Fr := ps.foldl plusF NO
theorem fold_bf {n : Nat} : ∀ (ps : List Fr) (m : Nat) (a : Fr), bf m a → (∀ p ∈ ps, bf n p) → bf (m + (n + 1) * ps.length) (ps.foldl plusF a)
  | [], m, a, h, _ => by simpa using h
  | p :: ps, m, a, h, h' => by
    have := fold_bf ps (m + n + 1) (plusF a p) (bf_plus h (h' p (by simp))) fun q hq => h' q (by simp [hq])
    simp only [List.foldl_cons, List.length_cons]
    exact bf_mono this (by rw [Nat.mul_add]; omega)
theorem bf_sum {n : Nat} {ps : List Fr} (h : ∀ p ∈ ps, bf n p) : bf (1 + (n + 1) * ps.length) (sumF ps) := fold_bf ps 1 NO bf_NO h
theorem sumF_snoc (a : List Fr) (p : Fr) : sumF (a ++ [p]) = plusF (sumF a) p := by simp [sumF]
theorem back_t1 (a : D) (e r : PV.Env) (os : PV.Env) : back [.tmp a] e os r = r := by
  rcases os with _ | ⟨x, w⟩ <;> rfl
theorem atFR {r : List Fr} {c : Nat} (h : c < r.length) : atI (r.map FR) (c : Int) = some (FR (r.getD c NO)) := by
  rw [atI_nat (by simpa using h)]
  simp [List.getD_eq_getElem?_getD, h]
theorem atFT {r : List (List Fr)} {c : Nat} (h : c < r.length) : atI (r.map FT) (c : Int) = some (FT (r.getD c [])) := by
  rw [atI_nat (by simpa using h)]
  simp [List.getD_eq_getElem?_getD, h]
theorem getD_mem {α : Type} {l : List α} {i : Nat} {d : α} (h : i < l.length) : l.getD i d ∈ l := by
  rw [List.getD_eq_getElem?_getD, List.getElem?_eq_getElem h]
  exact List.getElem_mem h
theorem lay_FR (p : Fr) : (FR p).lay 60 := by
  refine lay_tup (n := 59) ?_
  intro d hd
  simp only [List.mem_cons, List.mem_nil_iff, or_false] at hd
  rcases hd with rfl | rfl <;> exact lay_int
theorem fEq_FR (p q : Fr) : fEq (FR p) (FR q) = some (.bl (decide (p = q))) := by
  rw [fEq_lay (lay_FR p) (lay_FR q)]
  congr 2
  obtain ⟨a, b⟩ := p
  obtain ⟨c, d⟩ := q
  simp [FR, D.py, pys, PyData.eqv, PyData.eqvAll]
  by_cases h1 : a = c <;> by_cases h2 : b = d <;> simp [h1, h2]
theorem eqNO {p : Fr} (h : cano p) : (p = NO) ↔ p.1 = 0 := by
  obtain ⟨a, b⟩ := p
  constructor
  · intro e
    rw [e]
    rfl
  · intro e
    have h1 : (0 : Int) < b := h.1
    have h2 : Nat.gcd a.natAbs b.natAbs = 1 := h.2
    have e : a = 0 := e
    subst e
    simp at h2
    have : b = 1 := by omega
    rw [this]
    rfl
theorem zipRange {n : Nat} {ls ps : List Fr} (hl : ls.length = n) (hp : ps.length = n) : zipD (ls.map FR) (ps.map FR) = (List.range n).map fun i => D.tup [FR (ls.getD i NO), FR (ps.getD i NO)] := by
  apply List.ext_getElem
  · simp [zipD, hl, hp]
  · intro i h1 h2
    simp at h2
    simp [zipD, List.getD_eq_getElem?_getD, h2, hl, hp]
theorem noLess {p : Fr} (h : 0 ≤ p.1) : lessF p NO = false := by
  simp only [lessF, NO]
  exact decide_eq_false (by omega)
theorem lay_rng {n : Nat} {f : D → Option D} (hf : ∀ d y, f d = some y → y = d) : ∀ d ∈ (rngD 0 n).filterMap f, d.lay 60 := by
  intro d hd
  obtain ⟨a, h1, h2⟩ := List.mem_filterMap.mp hd
  rw [hf _ _ h2]
  obtain ⟨j, _, rfl⟩ := rngMem h1
  exact lay_int
theorem fz_rng {n : Nat} {f : D → Option D} (hf : ∀ d y, f d = some y → y = d) : fzs ((rngD 0 n).filterMap f) = (rngD 0 n).filterMap f := fzs_of _ (by
  rw [isFzs_all, List.all_eq_true]
  intro d hd
  obtain ⟨a, h1, h2⟩ := List.mem_filterMap.mp hd
  rw [hf _ _ h2]
  obtain ⟨j, _, rfl⟩ := rngMem h1
  rfl)
theorem fm_empty {α : Type} (g : α → Bool) (l : List α) (f : α → Option α) (h : ∀ x ∈ l, f x = if g x = true then some x else none) : (l.filterMap f).isEmpty = l.all fun x => !g x := by
  induction l with
  | nil => rfl
  | cons x l ih =>
    have ih := ih fun y hy => h y (by simp [hy])
    have hx := h x (by simp)
    cases q : g x with
    | true => simp [hx, q]
    | false => simp [hx, q, ih]
theorem rng_all {n : Nat} (g : D → Bool) (f : Nat → Bool) (h : ∀ i, i < n → g (.int (i : Int)) = f i) : (rngD 0 n).all g = (List.range n).all f := by
  have e : rngD 0 n = (List.range n).map fun i : Nat => D.int (i : Int) := by
    simp only [rngD]
    apply List.map_congr_left
    intro i _
    rw [Int.zero_add]
  rw [e, List.all_map]
  apply Bool.eq_iff_iff.mpr
  rw [List.all_eq_true, List.all_eq_true]
  exact ⟨fun q i hi => by rw [← h i (by simpa using hi)]; exact q i hi, fun q i hi => by have := q i hi; rw [← h i (by simpa using hi)] at this; exact this⟩
def ix (f : Nat → Bool) : D → Bool
  | .int i => f i.toNat
  | _ => false
theorem ix_nat (f : Nat → Bool) (i : Nat) : ix f (.int (i : Int)) = f i := rfl
theorem wloopM {g : GT} {b : SS} {z : RS} {G : Nat → D} {n : Nat} {e : PV.Env} (hz : loop g b ((List.range n).map G) e = z) (I : Nat → PV.Env → Prop) (h0 : I 0 e) (h : ∀ j, j < n → ∀ e, I j e → gwp (g (G j) e) fun e1 => (b e1).wp (I (j + 1)) fun _ _ => False) : ∃ e', z = .nx e' ∧ I n e' := by
  obtain ⟨e', h1, h2, h3⟩ := wloop2 hz (fun dn ds e => dn ++ ds = (List.range n).map G ∧ I dn.length e) ⟨rfl, h0⟩ (by
    rintro dn d ds e ⟨h1, h2⟩
    have hl := congrArg List.length h1
    simp at hl
    have hj : dn.length < n := by omega
    have hd : d = G dn.length := by
      have := congrArg (fun l : List D => l[dn.length]?) h1
      simp [hj] at this
      exact this
    subst hd
    obtain ⟨e1, h3, h4⟩ := (h dn.length hj e h2).ex
    rw [h3]
    refine gwp_some.mpr ?_
    cases q : b e1 with
    | nx e2 =>
      rw [q] at h4
      have h5 : I (dn.length + 1) e2 := h4
      exact ⟨by simp [h1], by simpa using h5⟩
    | _ => rw [q] at h4; exact h4)
  exact ⟨e', h1, by simpa using h3⟩
def okF (p : Fr) : Prop := cano p ∧ bf 8 p ∧ 0 ≤ p.1
theorem low_ok {a b : Int} (ha : 0 ≤ a) (ha2 : a < 256) (hb : 0 < b) (hb2 : b < 256) : okF (low a b) := by
  obtain ⟨g, g0, e1, e2, c⟩ := low_spec (a := a) hb
  refine ⟨c, bf_low hb (by have : (2 : Nat) ^ 8 = 256 := rfl; omega) (by have : (2 : Nat) ^ 8 = 256 := rfl; omega), ?_⟩
  apply Int.not_lt.mp
  intro h
  have := Int.mul_neg_of_pos_of_neg g0 h
  omega
theorem ok_NO : okF NO := ⟨⟨by decide, by decide⟩, bf_mono bf_NO (by decide), by decide⟩
theorem ok_ON : okF ON := ⟨⟨by decide, by decide⟩, bf_mono bf_ON (by decide), by decide⟩
theorem frs_of {P : Fr → Prop} {ys : List D} (h : ∀ y ∈ ys, ∃ p, y = FR p ∧ P p) : ∃ ps : List Fr, ys = ps.map FR ∧ ∀ p ∈ ps, P p := by
  induction ys with
  | nil => exact ⟨[], rfl, by simp⟩
  | cons y ys ih =>
    obtain ⟨r, rfl, h2⟩ := ih fun y hy => h y (by simp [hy])
    obtain ⟨x, rfl, h3⟩ := h y (by simp)
    exact ⟨x :: r, rfl, fun p hp => by
      rcases List.mem_cons.mp hp with rfl | hp
      · exact h3
      · exact h2 p hp⟩
theorem fts_of {P : List Fr → Prop} {ys : List D} (h : ∀ y ∈ ys, ∃ p, y = FT p ∧ P p) : ∃ ps : List (List Fr), ys = ps.map FT ∧ ∀ p ∈ ps, P p := by
  induction ys with
  | nil => exact ⟨[], rfl, by simp⟩
  | cons y ys ih =>
    obtain ⟨r, rfl, h2⟩ := ih fun y hy => h y (by simp [hy])
    obtain ⟨x, rfl, h3⟩ := h y (by simp)
    exact ⟨x :: r, rfl, fun p hp => by
      rcases List.mem_cons.mp hp with rfl | hp
      · exact h3
      · exact h2 p hp⟩
theorem cutFrom {l : List D} {i : Nat} : cutD l (some ((i : Int) + 1)) none = l.drop (i + 1) := by
  have e : HT.sIx l.length 0 (some ((i : Int) + 1)) = min (i + 1) l.length := by
    simp only [HT.sIx]
    rw [if_neg (by omega)]
    omega
  have e2 : HT.sIx l.length l.length none = l.length := rfl
  unfold cutD
  rw [e]
  show List.take (l.length - min (i + 1) l.length) (List.drop (min (i + 1) l.length) l) = _
  by_cases h : i + 1 ≤ l.length
  · rw [Nat.min_eq_left h]
    exact List.take_of_length_le (by simp)
  · rw [Nat.min_eq_right (by omega), List.drop_length, List.drop_of_length_le (by omega)]
    simp
theorem cutT_FR (rows : List Fr) (i : Nat) : cutD (rows.map FR) none (some (i : Int)) = (rows.take i).map FR := by
  rw [cutTo (by omega), List.map_take]
  simp
theorem cutF_FR (rows : List Fr) (i : Nat) : cutD (rows.map FR) (some ((i : Int) + 1)) none = (rows.drop (i + 1)).map FR := by
  rw [cutFrom, List.map_drop]
theorem catT {a b : List D} (h : a.length + b.length ≤ 1000) : fCatT (.tup a) (.tup b) = some (.tup (a ++ b)) := by
  have z : a.length + b.length ≤ sizeLine := by rw [size_eq]; omega
  simp [fCatT, z]
theorem rep1 (n : Nat) (x : D) (hn : n ≤ 1000) : fRepT (.tup [x]) (.int (n : Int)) = some (.tup (List.replicate n x)) := by
  rw [repT hn (by simp)]
  congr 2
  simp
theorem plains_app {a b : List D} : plains (a ++ b) = (plains a && plains b) := by simp only [plains_all, List.all_append]
theorem plain_f {d : D} (h : D.plain d = true) : d.fz = d := D.fz_of d (plain_fz d h)
theorem zFM (rows : List (List Fr)) : (FM rows).isFz = true := plain_fz _ (plain_FM rows)
theorem fFM (rows : List (List Fr)) : (FM rows).fz = FM rows := D.fz_of _ (zFM rows)
theorem zFT1 (r : List Fr) : (FT r).isFz = true := plain_fz _ (plain_FT r)
theorem fFT1 (r : List Fr) : (FT r).fz = FT r := D.fz_of _ (zFT1 r)
theorem at2 {x : Int} (h0 : 0 ≤ x) (h1 : x < 2) : atI [D.int 0, .int 1] x = some (.int x) := by
  have : x = 0 ∨ x = 1 := by omega
  rcases this with rfl | rfl <;> rfl
theorem bk3 (a0 a1 a2 : Option D) (n : Int) (v : D) (w os r : PV.Env) : back [.slot 3, .tmp v] (a0 :: a1 :: a2 :: some (.int n) :: w) os r = r := by
  rcases os with _ | ⟨x, _ | ⟨y, z⟩⟩ <;> rfl
theorem snFR (qs : List Fr) (p : Fr) : List.map FR qs ++ [FR p] = List.map FR (qs ++ [p]) := by simp
theorem allRange {n : Nat} {ls : List Fr} (hl : ls.length = n) (f : Fr → Bool) : ls.all f = (List.range n).all fun i => f (ls.getD i NO) := by
  have : ls = (List.range n).map fun i => ls.getD i NO := by
    apply List.ext_getElem
    · simp [hl]
    · intro i h1 h2
      simp [List.getD_eq_getElem?_getD, h1]
  conv => lhs; rw [this]
  rw [List.all_map]
  rfl
end LM
set_option Elab.async false
set_option linter.all false
set_option maxRecDepth 100000
set_option maxHeartbeats 4000000
namespace LM
open PySem PySem.Spec L2 PV
def rep (D : Int) (p : Fr) (x : Int) : Prop := 0 < p.2 ∧ p.1 * D = x * p.2
theorem rep_of {D : Int} {p : Fr} (h0 : 0 < p.2) (h : p.2 ∣ D) : rep D p (p.1 * (D / p.2)) := by
  refine ⟨h0, ?_⟩
  rw [Int.mul_assoc, Int.ediv_mul_cancel h]
theorem rep_low {D a b x : Int} (hb : 0 < b) (h : a * D = x * b) : rep D (low a b) x := by
  obtain ⟨g, g0, e1, e2, c⟩ := low_spec (a := a) hb
  refine ⟨c.1, ?_⟩
  apply Int.eq_of_mul_eq_mul_left (a := g) (by omega)
  generalize (low a b).1 = n at *
  generalize (low a b).2 = m at *
  subst e1 e2
  grind
theorem rep_plus {D : Int} {p q : Fr} {x y : Int} (hp : rep D p x) (hq : rep D q y) : rep D (plusF p q) (x + y) := by
  refine rep_low (Int.mul_pos hp.1 hq.1) ?_
  have := hp.2
  have := hq.2
  grind
theorem rep_minus {D : Int} {p q : Fr} {x y : Int} (hp : rep D p x) (hq : rep D q y) : rep D (minusF p q) (x - y) := by
  refine rep_low (Int.mul_pos hp.1 hq.1) ?_
  have := hp.2
  have := hq.2
  grind
theorem rep_times {D E : Int} {p q : Fr} {x y : Int} (hp : rep D p x) (hq : rep E q y) : rep (D * E) (timesF p q) (x * y) := by
  refine rep_low (Int.mul_pos hp.1 hq.1) ?_
  have := hp.2
  have := hq.2
  grind
theorem rep_up {D c : Int} {p : Fr} {x : Int} (hp : rep D p x) : rep (c * D) p (c * x) := by
  refine ⟨hp.1, ?_⟩
  have := hp.2
  grind
theorem rep_less {D : Int} {p q : Fr} {x y : Int} (hD : 0 < D) (hp : rep D p x) (hq : rep D q y) : lessF p q = decide (x < y) := by
  unfold lessF
  congr 1
  apply propext
  have h1 := hp.2
  have h2 := hq.2
  have e1 : (p.1 * q.2) * D = x * (p.2 * q.2) := by grind
  have e2 : (q.1 * p.2) * D = y * (p.2 * q.2) := by grind
  have pq := Int.mul_pos hp.1 hq.1
  constructor
  · intro h
    have := Int.mul_lt_mul_of_pos_right h hD
    rw [e1, e2] at this
    exact Int.lt_of_mul_lt_mul_right this (Int.le_of_lt pq)
  · intro h
    have := Int.mul_lt_mul_of_pos_right h pq
    rw [← e1, ← e2] at this
    exact Int.lt_of_mul_lt_mul_right this (Int.le_of_lt hD)
theorem rep_NO (D : Int) : rep D NO 0 := ⟨by decide, by simp [NO]⟩
theorem rep_ON (D : Int) : rep D ON D := ⟨by decide, by simp [ON]⟩
theorem rep_int (i : Int) : rep 1 (i, 1) i := ⟨(by decide : (0 : Int) < 1), rfl⟩
theorem rep_intD (D i : Int) : rep D (i, 1) (i * D) := ⟨by show (0 : Int) < 1; decide, by simp⟩
theorem rep_0 {D x : Int} (h : rep D NO x) : x = 0 := by
  have := h.2
  simp [NO] at this
  exact this.symm
theorem rep_self {p : Fr} (h : 0 < p.2) : rep p.2 p p.1 := ⟨h, rfl⟩
theorem rep_uniq {D x y : Int} {p : Fr} (h : rep D p x) (h2 : rep D p y) : x = y := by
  have h0 := h.1
  apply Int.eq_of_mul_eq_mul_right (a := p.2) (by omega)
  rw [← h.2, ← h2.2]
/-- fractions in lowest terms that are the same number are the same -/
theorem cano_eq {p q : Fr} (hp : cano p) (hq : cano q) (h : p.1 * q.2 = q.1 * p.2) : p = q := by
  obtain ⟨a, b⟩ := p
  obtain ⟨c, d⟩ := q
  obtain ⟨b0, g1⟩ := hp
  obtain ⟨d0, g2⟩ := hq
  simp only at *
  have hn : a.natAbs * d.natAbs = c.natAbs * b.natAbs := by
    rw [← Int.natAbs_mul, ← Int.natAbs_mul, h]
  have h1 : b.natAbs ∣ d.natAbs := by
    have : b.natAbs ∣ a.natAbs * d.natAbs := ⟨c.natAbs, by rw [hn, Nat.mul_comm]⟩
    exact Nat.Coprime.dvd_of_dvd_mul_left (Nat.Coprime.symm g1) this
  have h2 : d.natAbs ∣ b.natAbs := by
    have : d.natAbs ∣ c.natAbs * b.natAbs := ⟨a.natAbs, by rw [← hn, Nat.mul_comm]⟩
    exact Nat.Coprime.dvd_of_dvd_mul_left (Nat.Coprime.symm g2) this
  have h3 : b.natAbs = d.natAbs := Nat.dvd_antisymm h1 h2
  have h4 : b = d := by omega
  subst h4
  have h5 : a = c := Int.eq_of_mul_eq_mul_right (a := b) (by omega) h
  rw [h5]
theorem rep_eq {D x : Int} {p q : Fr} (hD : 0 < D) (hp : cano p) (hq : cano q) (h1 : rep D p x) (h2 : rep D q x) : p = q := by
  refine cano_eq hp hq ?_
  have e1 := h1.2
  have e2 := h2.2
  apply Int.eq_of_mul_eq_mul_right (a := D) (by omega)
  calc p.1 * q.2 * D = (p.1 * D) * q.2 := by grind
    _ = (x * p.2) * q.2 := by rw [e1]
    _ = (q.1 * D) * p.2 := by rw [e2]; grind
    _ = q.1 * p.2 * D := by grind
/-! sums -/
def sg (x : Nat → Int) : Nat → Int
  | 0 => 0
  | n + 1 => sg x n + x n
theorem sg_congr {x y : Nat → Int} {n : Nat} (h : ∀ i, i < n → x i = y i) : sg x n = sg y n := by
  induction n with
  | zero => rfl
  | succ n ih => simp only [sg, ih fun i hi => h i (by omega), h n (by omega)]
theorem sg_zero {x : Nat → Int} {m n : Nat} (hmn : m ≤ n) (h : ∀ i, m ≤ i → x i = 0) : sg x n = sg x m := by
  induction n with
  | zero => have : m = 0 := by omega
            rw [this]
  | succ n ih =>
    by_cases e : m = n + 1
    · rw [e]
    · simp only [sg, h n (by omega)]
      rw [ih (by omega)]
      omega
theorem sg_shift (x : Nat → Int) (k n : Nat) : sg x (k + n) = sg x k + sg (fun i => x (k + i)) n := by
  induction n with
  | zero => simp [sg]
  | succ n ih =>
    show sg x (k + n) + x (k + n) = _
    simp only [sg, ih]
    omega
theorem sg_mono {x y : Nat → Int} (h : ∀ i, x i ≤ y i) : ∀ n, sg x n ≤ sg y n
  | 0 => Int.le_refl _
  | n + 1 => by
    have := sg_mono h n
    have := h n
    simp only [sg]
    omega
theorem sg_mul (c : Int) (x : Nat → Int) : ∀ n, sg (fun i => c * x i) n = c * sg x n
  | 0 => by simp [sg]
  | n + 1 => by simp only [sg, sg_mul c x n]; grind
theorem sg_add (x y : Nat → Int) : ∀ n, sg (fun i => x i + y i) n = sg x n + sg y n
  | 0 => by simp [sg]
  | n + 1 => by simp only [sg, sg_add x y n]; omega
theorem sg_nn {x : Nat → Int} (h : ∀ i, 0 ≤ x i) : ∀ n, 0 ≤ sg x n
  | 0 => Int.le_refl _
  | n + 1 => by
    have := sg_nn h n
    have := h n
    simp only [sg]
    omega
theorem rep_sg {D : Int} {f : Nat → Fr} {x : Nat → Int} (h : ∀ i, rep D (f i) (x i)) (n : Nat) : rep D (sumF ((List.range n).map f)) (sg x n) := by
  induction n with
  | zero => exact rep_NO D
  | succ n ih =>
    rw [List.range_succ, List.map_append]
    simp only [List.map_cons, List.map_nil]
    rw [sumF_snoc]
    exact rep_plus ih (h n)
theorem list_range (l : List Fr) : l = (List.range l.length).map fun i => l.getD i NO := by
  apply List.ext_getElem
  · simp
  · intro i h1 h2
    simp [List.getD_eq_getElem?_getD, h1]
theorem drop_range (l : List Fr) (k : Nat) : l.drop k = (List.range (l.length - k)).map fun i => l.getD (k + i) NO := by
  apply List.ext_getElem
  · simp
  · intro i h1 h2
    simp at h1
    simp [List.getD_eq_getElem?_getD, show k + i < l.length by omega]
theorem rep_sumL {D : Int} {l : List Fr} {x : Nat → Int} (h : ∀ i, rep D (l.getD i NO) (x i)) {N : Nat} (hN : l.length ≤ N) : rep D (sumF l) (sg x N) := by
  have e := rep_sg h l.length
  rw [← list_range] at e
  rw [sg_zero (m := l.length) hN fun i hi => ?_]
  · exact e
  · have := h i
    rw [List.getD_eq_getElem?_getD, List.getElem?_eq_none hi] at this
    exact rep_0 this
theorem rep_drop {D : Int} {l : List Fr} {x : Nat → Int} (h : ∀ i, rep D (l.getD i NO) (x i)) {N : Nat} (hN : l.length ≤ N) {k : Nat} (hk : k ≤ N) : rep D (sumF (l.drop k)) (sg x N - sg x k) := by
  have z : ∀ i, l.length ≤ i → x i = 0 := fun i hi => by
    have := h i
    rw [List.getD_eq_getElem?_getD, List.getElem?_eq_none hi] at this
    exact rep_0 this
  have e := rep_sg (f := fun i => l.getD (k + i) NO) (x := fun i => x (k + i)) (fun i => h (k + i)) (l.length - k)
  rw [← drop_range] at e
  by_cases hkl : k ≤ l.length
  · have s := sg_shift x k (l.length - k)
    rw [show k + (l.length - k) = l.length by omega] at s
    rw [sg_zero hN z, s, show sg x k + sg (fun i => x (k + i)) (l.length - k) - sg x k = sg (fun i => x (k + i)) (l.length - k) by omega]
    exact e
  · rw [sg_zero (m := l.length) (n := k) (by omega) z, sg_zero hN z, Int.sub_self]
    rw [List.drop_eq_nil_of_le (by omega)]
    exact rep_NO D
def meanL (l : List Fr) : List Fr := (List.range l.length).map fun i : Nat => timesF ((i : Int), 1) (l.getD i NO)
theorem rep_mean {D : Int} {l : List Fr} {x : Nat → Int} (h : ∀ i, rep D (l.getD i NO) (x i)) {N : Nat} (hN : l.length ≤ N) : rep D (sumF (meanL l)) (sg (fun i => (i : Int) * x i) N) := by
  have e := rep_sg (D := D) (f := fun i : Nat => timesF ((i : Int), 1) (l.getD i NO)) (x := fun i => (i : Int) * x i) (fun i => by
    have := rep_times (rep_int (i : Int)) (h i)
    rwa [Int.one_mul] at this) l.length
  rw [sg_zero (m := l.length) hN fun i hi => ?_]
  · exact e
  · have := h i
    rw [List.getD_eq_getElem?_getD, List.getElem?_eq_none hi] at this
    rw [rep_0 this, Int.mul_zero]
/-! two counts -/
def two (lo hi : Nat) (a b : Int) (i : Nat) : Int := if i = hi then b else if i = lo then a else 0
theorem sg_two {lo hi : Nat} {a b : Int} (h : lo < hi) : ∀ n, sg (two lo hi a b) n = (if lo < n then a else 0) + (if hi < n then b else 0)
  | 0 => by simp [sg]
  | n + 1 => by
    simp only [sg, sg_two h n, two]
    split <;> split <;> split <;> split <;> (try split) <;> (try split) <;> omega
theorem sg_two1 {lo hi : Nat} {a b : Int} (h : lo < hi) : ∀ n, sg (fun i => (i : Int) * two lo hi a b i) n = (if lo < n then (lo : Int) * a else 0) + (if hi < n then (hi : Int) * b else 0)
  | 0 => by simp [sg]
  | n + 1 => by
    have ih := sg_two1 (a := a) (b := b) h n
    simp only [sg, ih]
    simp only [two]
    by_cases h1 : n = hi
    · subst h1
      simp
      have : lo < n + 1 := by omega
      simp [h, this]
    · by_cases h2 : n = lo
      · subst h2
        have h3 : ¬ hi < n := by omega
        have h4 : ¬ hi < n + 1 := by omega
        simp [h1, h3, h4]
      · have h3 : (lo < n) = (lo < n + 1) := propext ⟨fun _ => by omega, fun _ => by omega⟩
        have h4 : (hi < n) = (hi < n + 1) := propext ⟨fun _ => by omega, fun _ => by omega⟩
        simp only [h1, h2, if_false, Int.mul_zero, Int.add_zero, h3, h4]
end LM
set_option Elab.async false
set_option linter.all false
set_option maxRecDepth 100000
set_option maxHeartbeats 4000000
namespace LM
open PySem PySem.Spec L2 PV
/-! ### fractions as rational numbers -/
def QF (q : Rat) : Fr := (q.num, (q.den : Int))
def FQ (q : Rat) : D := FR (QF q)
def TQ (qs : List Rat) : D := .tup (qs.map FQ)
def sz (b : Nat) (q : Rat) : Prop := q.num.natAbs < 2 ^ b ∧ q.den < 2 ^ b
theorem den_pos' (q : Rat) : (0 : Int) < (q.den : Int) := by have := q.den_nz; omega
theorem bf_QF {b : Nat} {q : Rat} : bf b (QF q) ↔ sz b q := by
  unfold bf sz QF
  have := den_pos' q
  simp only [Int.natAbs_natCast]
  constructor
  · rintro ⟨h1, h2, _⟩; exact ⟨h1, h2⟩
  · rintro ⟨h1, h2⟩; exact ⟨h1, h2, this⟩
theorem cano_QF (q : Rat) : cano (QF q) := ⟨den_pos' q, by simpa [QF] using q.reduced⟩
theorem sz_mono {m n : Nat} {q : Rat} (h : sz m q) (hmn : m ≤ n) : sz n q := bf_QF.mp (bf_mono (bf_QF.mpr h) hmn)
theorem low_QF {a b : Int} (h : b ≠ 0) : low a b = QF (Rat.divInt a b) := by
  have pos : ∀ a b : Int, 0 < b → low a b = QF (Rat.divInt a b) := by
    intro a b hb
    refine cano_eq (low_spec hb).choose_spec.2.2.2 (cano_QF _) ?_
    obtain ⟨g, g0, e1, e2, c⟩ := low_spec (a := a) hb
    have e3 : Rat.divInt a b = Rat.divInt (low a b).1 (low a b).2 := by
      have : Rat.divInt (g * (low a b).1) (g * (low a b).2) = Rat.divInt (low a b).1 (low a b).2 := Rat.divInt_mul_left (by omega)
      rw [← e1, ← e2] at this
      exact this
    rw [e3]
    have h1 : Rat.divInt (low a b).1 (low a b).2 = Rat.divInt (Rat.divInt (low a b).1 (low a b).2).num ((Rat.divInt (low a b).1 (low a b).2).den : Int) := (Rat.num_divInt_den _).symm
    have := (Rat.divInt_eq_divInt_iff (by have := c.1; omega) (by have := den_pos' (Rat.divInt (low a b).1 (low a b).2); omega)).mp h1
    exact this
  rcases Int.lt_or_gt_of_ne h with hb | hb
  · have e : low a b = low (-a) (-b) := by
      have g : gz a b = - gz (-a) (-b) := by
        unfold gz
        rw [if_pos hb, if_neg (by omega), Int.natAbs_neg, Int.natAbs_neg]
      unfold low
      rw [g]
      have f : ∀ x y : Int, x.fdiv (-y) = (-x).fdiv y := fun x y => by
        rw [← Int.neg_fdiv_neg (-x) y, Int.neg_neg]
      rw [f, f]
    rw [e, pos _ _ (by omega), Rat.neg_divInt_neg]
  · exact pos a b hb
theorem plus_QF (p q : Rat) : plusF (QF p) (QF q) = QF (p + q) := by
  unfold plusF
  rw [low_QF (by have := Int.mul_pos (den_pos' p) (den_pos' q); exact Int.ne_of_gt this)]
  rw [Rat.add_def', show ((QF p).2 * (QF q).2) = ((p.den * q.den : Nat) : Int) from by simp [QF], Rat.divInt_ofNat]
  rfl
theorem minus_QF (p q : Rat) : minusF (QF p) (QF q) = QF (p - q) := by
  unfold minusF
  rw [low_QF (by have := Int.mul_pos (den_pos' p) (den_pos' q); exact Int.ne_of_gt this)]
  rw [Rat.sub_def', show ((QF p).2 * (QF q).2) = ((p.den * q.den : Nat) : Int) from by simp [QF], Rat.divInt_ofNat]
  rfl
theorem times_QF (p q : Rat) : timesF (QF p) (QF q) = QF (p * q) := by
  unfold timesF
  rw [low_QF (by have := Int.mul_pos (den_pos' p) (den_pos' q); exact Int.ne_of_gt this)]
  rw [Rat.mul_def', show ((QF p).2 * (QF q).2) = ((p.den * q.den : Nat) : Int) from by simp [QF], Rat.divInt_ofNat]
  rfl
theorem num_ne {q : Rat} (h : q ≠ 0) : q.num ≠ 0 := fun e => h (Rat.num_eq_zero.mp e)
theorem through_low {p q : Rat} (h : q ≠ 0) : low (p.num * (q.den : Int)) ((p.den : Int) * q.num) = QF (p / q) := by
  rw [low_QF (Int.mul_ne_zero (Int.ne_of_gt (den_pos' p)) (num_ne h))]
  congr 1
  rw [Rat.div_def, Rat.inv_def]
  conv => rhs; rw [← Rat.num_divInt_den p]
  rw [Rat.divInt_mul_divInt]
theorem less_QF (p q : Rat) : lessF (QF p) (QF q) = decide (p < q) := by
  unfold lessF QF
  have := Rat.lt_iff p q
  simp only []
  by_cases h : p < q
  · rw [decide_eq_true h, decide_eq_true (this.mp h)]
  · rw [decide_eq_false h, decide_eq_false (fun z => h (this.mpr z))]
theorem QF_inj {p q : Rat} (h : QF p = QF q) : p = q := by
  have h1 : p.num = q.num := congrArg Prod.fst h
  have h2 : (p.den : Int) = (q.den : Int) := congrArg Prod.snd h
  exact Rat.ext h1 (by omega)
theorem FQ_inj {p q : Rat} (h : FQ p = FQ q) : p = q := by
  apply QF_inj
  have : FR (QF p) = FR (QF q) := h
  unfold FR at this
  injection this with this
  simp only [List.cons.injEq, D.int.injEq, and_true] at this
  exact Prod.ext this.1 this.2
theorem fEq_FQ (p q : Rat) : fEq (FQ p) (FQ q) = some (.bl (decide (p = q))) := by
  unfold FQ
  rw [fEq_FR]
  by_cases h : p = q
  · subst h; simp
  · rw [decide_eq_false h, decide_eq_false fun e => h (QF_inj e)]
theorem eqv_FR (p q : Fr) : PyData.eqv (FR p).py (FR q).py = decide (p = q) := by
  have h := fEq_FR p q
  rw [fEq_lay (lay_FR p) (lay_FR q)] at h
  simpa using h
theorem fNe_FQ (p q : Rat) : fNe (FQ p) (FQ q) = some (.bl (!decide (p = q))) := by
  unfold FQ fNe
  rw [okEq_of (lay_FR _), okEq_of (lay_FR _)]
  simp only [Bool.and_self, if_true, eqv_FR]
  by_cases h : p = q
  · subst h; simp
  · rw [decide_eq_false h, decide_eq_false fun e => h (QF_inj e)]
theorem FQ_z (q : Rat) : (FQ q).isFz = true := rfl
theorem FQ_f (q : Rat) : (FQ q).fz = FQ q := rfl
theorem FQ0 : D.tup [.int 0, .int 1] = FQ 0 := rfl
theorem FQ1 : D.tup [.int 1, .int 1] = FQ 1 := rfl
theorem FQi (i : Int) : D.tup [.int i, .int 1] = FQ (i : Rat) := rfl
theorem FQd (q : Rat) : FQ q = D.tup [.int q.num, .int (q.den : Int)] := rfl
theorem ixQ0 (q : Rat) : fIx (FQ q) (.int 0) = some (.int q.num) := rfl
theorem ixQ1 (q : Rat) : fIx (FQ q) (.int 1) = some (.int (q.den : Int)) := rfl
theorem mapFQ (qs : List Rat) : qs.map FQ = (qs.map QF).map FR := by simp [FQ, Function.comp]
theorem zFQ (qs : List Rat) : isFzs (qs.map FQ) = true := by rw [mapFQ]; exact zFR _
theorem fFQ (qs : List Rat) : fzs (qs.map FQ) = qs.map FQ := by rw [mapFQ]; exact fFR _
theorem lay_FQ (q : Rat) : (FQ q).lay 60 := lay_FR _
theorem TQ_z (qs : List Rat) : (TQ qs).isFz = true := by simp only [TQ, D.isFz, zFQ]
theorem TQ_f (qs : List Rat) : (TQ qs).fz = TQ qs := D.fz_of _ (TQ_z qs)
theorem atFQ {r : List Rat} {c : Nat} (h : c < r.length) : atI (r.map FQ) (c : Int) = some (FQ (r.getD c 0)) := by
  rw [atI_nat (by simpa using h)]
  simp [h]
theorem ixN_nat {n i : Nat} (h : i < n) : ixN n (i : Int) = some i := by
  unfold ixN
  simp [h]
theorem setFQ (l : List Rat) (i : Nat) (p : Rat) : (l.map FQ).set i (FQ p) = (l.set i p).map FQ := by rw [List.map_set]
theorem snFQ (qs : List Rat) (p : Rat) : qs.map FQ ++ [FQ p] = (qs ++ [p]).map FQ := by simp
theorem enumFQ (ps : List Rat) : enumD (ps.map FQ) = (List.range ps.length).map fun i : Nat => D.tup [.int (i : Int), FQ (ps.getD i 0)] := by
  apply List.ext_getElem
  · simp [enumD]
  · intro i h1 h2
    simp [enumD] at h1
    simp [enumD, h1]
theorem cutT_FQ (rows : List Rat) (i : Nat) : cutD (rows.map FQ) none (some (i : Int)) = (rows.take i).map FQ := by
  rw [cutTo (by omega)]
  simp
theorem cutT_FQ1 (ps : List Rat) (l : Nat) : cutD (ps.map FQ) none (some ((l : Int) + 1)) = (ps.take (l + 1)).map FQ := by
  have := cutT_FQ ps (l + 1)
  rw [← this]
  congr 2
theorem cutF_FQ (rows : List Rat) (i : Nat) : cutD (rows.map FQ) (some ((i : Int) + 1)) none = (rows.drop (i + 1)).map FQ := by
  rw [cutFrom, List.map_drop]
theorem fqs_of {P : Rat → Prop} {ys : List D} (h : ∀ y ∈ ys, ∃ p, y = FQ p ∧ P p) : ∃ ps : List Rat, ys = ps.map FQ ∧ ∀ p ∈ ps, P p := by
  induction ys with
  | nil => exact ⟨[], rfl, by simp⟩
  | cons y ys ih =>
    obtain ⟨r, rfl, h2⟩ := ih fun y hy => h y (by simp [hy])
    obtain ⟨p, rfl, h1⟩ := h y (by simp)
    exact ⟨p :: r, rfl, by simpa using ⟨h1, h2⟩⟩
theorem tqs_of {P : List Rat → Prop} {ys : List D} (h : ∀ y ∈ ys, ∃ p, y = TQ p ∧ P p) : ∃ ps : List (List Rat), ys = ps.map TQ ∧ ∀ p ∈ ps, P p := by
  induction ys with
  | nil => exact ⟨[], rfl, by simp⟩
  | cons y ys ih =>
    obtain ⟨r, rfl, h2⟩ := ih fun y hy => h y (by simp [hy])
    obtain ⟨p, rfl, h1⟩ := h y (by simp)
    exact ⟨p :: r, rfl, by simpa using ⟨h1, h2⟩⟩
/-! ### sizes -/
theorem sz_add {m n : Nat} {p q : Rat} (hp : sz m p) (hq : sz n q) : sz (m + n + 1) (p + q) := by
  rw [← bf_QF, ← plus_QF]; exact bf_plus (bf_QF.mpr hp) (bf_QF.mpr hq)
theorem sz_sub {m n : Nat} {p q : Rat} (hp : sz m p) (hq : sz n q) : sz (m + n + 1) (p - q) := by
  rw [← bf_QF, ← minus_QF]; exact bf_minus (bf_QF.mpr hp) (bf_QF.mpr hq)
theorem sz_mul {m n : Nat} {p q : Rat} (hp : sz m p) (hq : sz n q) : sz (m + n) (p * q) := by
  rw [← bf_QF, ← times_QF]; exact bf_times (bf_QF.mpr hp) (bf_QF.mpr hq)
theorem sz_inv {m : Nat} {p : Rat} (hp : sz m p) : sz m p⁻¹ := by
  unfold sz at *
  rw [Rat.num_inv, Rat.den_inv]
  have h2 : (2 : Nat) ^ m ≠ 0 := by simp
  refine ⟨?_, ?_⟩
  · rw [Int.natAbs_mul]
    have : p.num.sign.natAbs ≤ 1 := by
      rcases Int.lt_trichotomy p.num 0 with h | h | h
      · rw [Int.sign_eq_neg_one_of_neg h]; decide
      · rw [h]; decide
      · rw [Int.sign_eq_one_of_pos h]; decide
    have h3 : p.num.sign.natAbs * (p.den : Int).natAbs ≤ 1 * (p.den : Int).natAbs := Nat.mul_le_mul_right _ this
    have : (p.den : Int).natAbs = p.den := rfl
    omega
  · split
    · have := hp.2
      have := p.den_nz
      omega
    · exact hp.1
theorem sz_div {m n : Nat} {p q : Rat} (hp : sz m p) (hq : sz n q) : sz (m + n) (p / q) := by
  rw [Rat.div_def]; exact sz_mul hp (sz_inv hq)
theorem sz_0 : sz 1 0 := ⟨by decide, by decide⟩
theorem sz_1 : sz 1 1 := ⟨by decide, by decide⟩
theorem sz_int {i : Int} {b : Nat} (h : i.natAbs < 2 ^ b) (hb : 1 ≤ b) : sz b (i : Rat) := ⟨h, by
  show 1 < 2 ^ b
  have := Nat.pow_le_pow_right (show 0 < 2 by decide) hb
  omega⟩
/-! ### common wholes -/
def dv (d : Nat) (q : Rat) : Prop := ∃ x : Int, q * (d : Rat) = (x : Rat)
theorem dv_add {d : Nat} {p q : Rat} : dv d p → dv d q → dv d (p + q) := fun ⟨x, hx⟩ ⟨y, hy⟩ => ⟨x + y, by rw [Rat.add_mul, hx, hy, Rat.intCast_add]⟩
theorem dv_sub {d : Nat} {p q : Rat} : dv d p → dv d q → dv d (p - q) := fun ⟨x, hx⟩ ⟨y, hy⟩ => ⟨x - y, by rw [Rat.intCast_sub, ← hx, ← hy]; grind⟩
theorem dv_mul {d e : Nat} {p q : Rat} : dv d p → dv e q → dv (d * e) (p * q) := fun ⟨x, hx⟩ ⟨y, hy⟩ => ⟨x * y, by rw [Rat.intCast_mul, ← hx, ← hy, Rat.natCast_mul]; grind⟩
theorem dv_up {d e : Nat} {q : Rat} : dv d q → dv (d * e) q := fun ⟨x, hx⟩ => ⟨x * e, by rw [Rat.intCast_mul, ← hx, Rat.natCast_mul, Rat.intCast_natCast]; grind⟩
theorem dv_up' {d e : Nat} {q : Rat} : dv d q → dv (e * d) q := fun h => by rw [Nat.mul_comm]; exact dv_up h
theorem dv_0 {d : Nat} : dv d 0 := ⟨0, by rw [Rat.zero_mul]; rfl⟩
theorem dv_int {d : Nat} (i : Int) : dv d (i : Rat) := ⟨i * d, by rw [Rat.intCast_mul, Rat.intCast_natCast]⟩
theorem dv_1 {d : Nat} : dv d 1 := dv_int 1
theorem q_den (q : Rat) : q * (q.den : Rat) = (q.num : Rat) := by
  have h : (q.den : Rat) ≠ 0 := fun e => q.den_nz (by exact_mod_cast e)
  have : q = (q.num : Rat) / (q.den : Rat) := by
    rw [← Rat.mkRat_eq_div, Rat.mkRat_self]
  generalize hx : (q.den : Rat) = x at *
  generalize hy : (q.num : Rat) = y at *
  rw [this]
  exact Rat.div_mul_cancel h
theorem dv_self (q : Rat) : dv q.den q := ⟨q.num, q_den q⟩
theorem dv_den {d : Nat} {q : Rat} (h0 : 0 < d) (h : dv d q) : q.den ∣ d := by
  obtain ⟨x, hx⟩ := h
  have hd : (d : Rat) ≠ 0 := fun e => by
    have : d = 0 := by exact_mod_cast e
    omega
  have : q = Rat.divInt x (d : Int) := by
    rw [Rat.divInt_eq_div, ← hx, Rat.intCast_natCast, Rat.mul_div_cancel hd]
  rw [this, Rat.den_divInt]
  split
  · exact Nat.one_dvd _
  · exact Nat.div_dvd_of_dvd (by
      have : (d : Int).gcd x ∣ (d : Int).natAbs := Nat.gcd_dvd_left _ _
      exact this)
theorem sz_dv {d N b : Nat} {q : Rat} (h0 : 0 < d) (h : dv d q) (h1 : -(N : Rat) ≤ q) (h2 : q ≤ (N : Rat)) (hb : N * d < 2 ^ b) (hd : d < 2 ^ b) : sz b q := by
  have hq := dv_den h0 h
  have hle := Nat.le_of_dvd h0 hq
  refine ⟨?_, by omega⟩
  have dp : (0 : Rat) < (q.den : Rat) := Rat.natCast_pos.mpr (by have := q.den_nz; omega)
  have e := q_den q
  have a1 : (q.num : Rat) ≤ ((N * q.den : Nat) : Rat) := by
    rw [← e, Rat.natCast_mul]
    exact Rat.mul_le_mul_of_nonneg_right h2 (Rat.le_of_lt dp)
  have a2 : -((N * q.den : Nat) : Rat) ≤ (q.num : Rat) := by
    rw [← e, Rat.natCast_mul, ← Rat.neg_mul]
    exact Rat.mul_le_mul_of_nonneg_right h1 (Rat.le_of_lt dp)
  have b1 : q.num ≤ ((N * q.den : Nat) : Int) := by
    rw [← Rat.intCast_natCast] at a1
    exact Rat.intCast_le_intCast.mp a1
  have b2 : -((N * q.den : Nat) : Int) ≤ q.num := by
    rw [← Rat.intCast_natCast, ← Rat.intCast_neg] at a2
    exact Rat.intCast_le_intCast.mp a2
  have : N * q.den ≤ N * d := Nat.mul_le_mul_left _ hle
  omega
/-! ### sums -/
def sq (l : List Rat) : Rat := l.foldl (· + ·) 0
theorem fold_sq : ∀ (l : List Rat) (a : Rat), l.foldl (· + ·) a = a + sq l
  | [], a => by simp [sq, Rat.add_zero]
  | x :: l, a => by
    unfold sq
    rw [List.foldl_cons, List.foldl_cons, fold_sq l (a + x), fold_sq l (0 + x), Rat.zero_add, Rat.add_assoc]
theorem sq_nil : sq [] = 0 := rfl
theorem sq_cons (x : Rat) (l : List Rat) : sq (x :: l) = x + sq l := by
  unfold sq
  rw [List.foldl_cons, fold_sq l (0 + x), Rat.zero_add]
  rfl
theorem sq_app : ∀ (l m : List Rat), sq (l ++ m) = sq l + sq m
  | [], m => by simp [sq_nil, Rat.zero_add]
  | x :: l, m => by rw [List.cons_append, sq_cons, sq_cons, sq_app l m, Rat.add_assoc]
theorem sq_one (x : Rat) : sq [x] = x := by rw [sq_cons, sq_nil, Rat.add_zero]
theorem dv_sq {d : Nat} : ∀ {l : List Rat}, (∀ q ∈ l, dv d q) → dv d (sq l)
  | [], _ => dv_0
  | x :: l, h => by rw [sq_cons]; exact dv_add (h x (by simp)) (dv_sq fun q hq => h q (by simp [hq]))
theorem sq_nonneg : ∀ {l : List Rat}, (∀ q ∈ l, 0 ≤ q) → 0 ≤ sq l
  | [], _ => Rat.le_refl
  | x :: l, h => by rw [sq_cons]; exact Rat.add_nonneg (h x (by simp)) (sq_nonneg fun q hq => h q (by simp [hq]))
theorem sz_fold {n : Nat} : ∀ (l : List Rat) (m : Nat) (a : Rat), sz m a → (∀ p ∈ l, sz n p) → sz (m + (n + 1) * l.length) (a + sq l)
  | [], m, a, h, _ => by rw [sq_nil, Rat.add_zero]; simpa using h
  | x :: l, m, a, h, h2 => by
    rw [sq_cons, ← Rat.add_assoc]
    have := sz_fold l (m + n + 1) (a + x) (sz_add h (h2 x (by simp))) fun p hp => h2 p (by simp [hp])
    refine sz_mono this ?_
    simp only [List.length_cons]
    rw [Nat.mul_add]
    omega
theorem sz_sq {n : Nat} {l : List Rat} (h : ∀ p ∈ l, sz n p) : sz (1 + (n + 1) * l.length) (sq l) := by
  have := sz_fold l 1 0 sz_0 h
  rwa [Rat.zero_add] at this
/-- sums over numbers -/
def rs (x : Nat → Rat) : Nat → Rat
  | 0 => 0
  | n + 1 => rs x n + x n
theorem rs_congr {x y : Nat → Rat} {n : Nat} (h : ∀ i, i < n → x i = y i) : rs x n = rs y n := by
  induction n with
  | zero => rfl
  | succ n ih => rw [rs, rs, ih fun i hi => h i (by omega), h n (by omega)]
theorem rs_add (x y : Nat → Rat) (n : Nat) : rs (fun i => x i + y i) n = rs x n + rs y n := by
  induction n with
  | zero => simp only [rs]; grind
  | succ n ih => rw [rs, rs, rs, ih]; grind
theorem rs_sub (x y : Nat → Rat) (n : Nat) : rs (fun i => x i - y i) n = rs x n - rs y n := by
  induction n with
  | zero => simp only [rs]; grind
  | succ n ih => rw [rs, rs, rs, ih]; grind
theorem rs_mul (c : Rat) (x : Nat → Rat) (n : Nat) : rs (fun i => c * x i) n = c * rs x n := by
  induction n with
  | zero => simp [rs]
  | succ n ih => rw [rs, rs, ih]; grind
theorem rs_0 {x : Nat → Rat} {n : Nat} (h : ∀ i, i < n → x i = 0) : rs x n = 0 := by
  induction n with
  | zero => rfl
  | succ n ih => rw [rs, ih fun i hi => h i (by omega), h n (by omega), Rat.add_zero]
theorem rs_ext {x : Nat → Rat} {m n : Nat} (hmn : m ≤ n) (h : ∀ i, m ≤ i → i < n → x i = 0) : rs x n = rs x m := by
  induction n with
  | zero => rw [show m = 0 by omega]
  | succ n ih =>
    by_cases e : m = n + 1
    · rw [e]
    · rw [rs, ih (by omega) fun i h1 h2 => h i h1 (by omega), h n (by omega) (by omega), Rat.add_zero]
theorem rs_nn {x : Nat → Rat} {n : Nat} (h : ∀ i, i < n → 0 ≤ x i) : 0 ≤ rs x n := by
  induction n with
  | zero => exact Rat.le_refl
  | succ n ih => rw [rs]; exact Rat.add_nonneg (ih fun i hi => h i (by omega)) (h n (by omega))
theorem rs_le {x y : Nat → Rat} {n : Nat} (h : ∀ i, i < n → x i ≤ y i) : rs x n ≤ rs y n := by
  induction n with
  | zero => exact Rat.le_refl
  | succ n ih =>
    have h1 := ih fun i hi => h i (by omega)
    have h2 := h n (by omega)
    rw [rs, rs]; grind
theorem rs_swap (f : Nat → Nat → Rat) (m n : Nat) : rs (fun i => rs (fun j => f i j) n) m = rs (fun j => rs (fun i => f i j) m) n := by
  induction m with
  | zero => exact (rs_0 (n := n) fun i _ => rfl).symm
  | succ m ih => rw [rs, ih, ← rs_add]; exact rs_congr fun i _ => rfl
theorem rs_first (x : Nat → Rat) (n : Nat) : rs x (n + 1) = x 0 + rs (fun i => x (i + 1)) n := by
  induction n with
  | zero => simp [rs, Rat.zero_add, Rat.add_zero]
  | succ n ih => rw [rs, ih, rs]; grind
theorem sq_range (x : Nat → Rat) (n : Nat) : sq ((List.range n).map x) = rs x n := by
  induction n with
  | zero => rfl
  | succ n ih => rw [List.range_succ, List.map_append, sq_app, ih, List.map_cons, List.map_nil, sq_one, rs]
theorem list_rangeQ (l : List Rat) : l = (List.range l.length).map fun i => l.getD i 0 := by
  apply List.ext_getElem
  · simp
  · intro i h1 h2
    simp [h1]
theorem sq_rs (l : List Rat) : sq l = rs (fun i => l.getD i 0) l.length := by
  conv => lhs; rw [list_rangeQ l]
  rw [sq_range]
theorem sq_rsN (l : List Rat) {N : Nat} (h : l.length ≤ N) : sq l = rs (fun i => l.getD i 0) N := by
  rw [sq_rs, rs_ext h fun i h1 _ => by simp [List.getD_eq_getElem?_getD, List.getElem?_eq_none h1]]
end LM
set_option Elab.async false
set_option linter.all false
set_option maxRecDepth 100000
set_option maxHeartbeats 4000000
namespace PV
open PySem PySem.Spec L2
/-! ### comprehensions over a list that is given by plain things -/
section
variable {α : Type} {G : α → D}
theorem lc_fmM {g : GT} {c : SM Bool} {el : SE} {vs : List Nat} {f : α → Option D} {W : Env} : ∀ (xs : List α), (∀ x ∈ xs, ∃ e3, lcStep g c el (G x) W = .ok (f x) e3 ∧ wipeE e3 vs = W) → ∀ (e : Env) (acc : List D), wipeE e vs = W →
    acc.length + xs.length ≤ sizeLine → ∃ e', lcLoop g c el vs (xs.map G) e acc = .ok (acc ++ xs.filterMap f) e' ∧ wipeE e' vs = W
  | [], _, e, acc, hw, _ => ⟨e, by simp [lcLoop], hw⟩
  | d :: ds, h, e, acc, hw, hl => by
    obtain ⟨e3, h1, h2⟩ := h d (by simp)
    simp only [List.length_cons] at hl
    obtain ⟨e', h3, h4⟩ := lc_fmM ds (fun d hd => h d (by simp [hd])) e3 (acc ++ (f d).toList) h2 (by cases f d <;> simp <;> omega)
    refine ⟨e', ?_, h4⟩
    rw [List.map_cons, lc_step (by rw [hw]; exact h1) (by omega), h3]
    congr 1
    cases q : f d <;> simp [List.filterMap_cons, q]
theorem wLcF {it : SI} {g : GT} {c : SM Bool} {el : SE} {vs : List Nat} {e e1 : Env} {xs : List α} (f : α → Option D) (hi : it e = .ok (xs.map G) e1) (h : ∀ x ∈ xs, (lcStep g c el (G x) (wipeE e1 vs)).wp fun o e3 => o = f x ∧ wipeE e3 vs = wipeE e1 vs) (hl : xs.length ≤ sizeLine) :
    sLc it g c el vs e = .ok (.lst true (xs.filterMap f)) (restE e1 (wipeE e1 vs) vs) := by
  obtain ⟨e', h1, h2⟩ := lc_fmM (G := G) (vs := vs) (f := f) xs (fun d hd => by
      obtain ⟨a, e3, h1, rfl, h2⟩ := (h d hd).ex
      exact ⟨e3, h1, h2⟩) e1 [] rfl (by simpa using hl)
  simp only [sLc, hi, R.bind, h1, List.nil_append]
  rw [wipe_rest e1 vs e' (wipeE e1 vs) (by rw [h2, wipe_wipe])]
theorem wLcM {it : SI} {g : GT} {c : SM Bool} {el : SE} {vs : List Nat} {e e1 : Env} {xs : List α} (f : α → D) (hi : it e = .ok (xs.map G) e1) (h : ∀ x ∈ xs, (lcStep g c el (G x) (wipeE e1 vs)).wp fun o e3 => o = some (f x) ∧ wipeE e3 vs = wipeE e1 vs) (hl : xs.length ≤ sizeLine) :
    sLc it g c el vs e = .ok (.lst true (xs.map f)) (restE e1 (wipeE e1 vs) vs) := by
  rw [wLcF (fun x => some (f x)) hi h hl]
  simp
theorem wLcHF {i : Nat} {q : QE} {g : GT} {c : SM Bool} {el : SE} {vs : List Nat} {e : Env} {d : D} {o : Bool} {xs : List α} (f : α → Option D) (h1 : e[i]? = some (some d)) (h2 : q (keepI i e) = some (.lst o (xs.map G))) (h3 : isFzs (xs.map G) = true)
    (h : ∀ x ∈ xs, (lcStep g c el (G x) (wipeE (e.set i none) vs)).wp fun o e3 => o = f x ∧ wipeE e3 vs = wipeE (e.set i none) vs) (hl : xs.length ≤ sizeLine) :
    sLcH i q g c el vs e = .ok (.lst true (xs.filterMap f)) ((restE (e.set i none) (wipeE (e.set i none) vs) vs).set i (some d)) := by
  obtain ⟨e', h4, h5⟩ := lc_fmM (G := G) (g := g) (c := c) (el := el) (vs := vs) (f := f) (W := wipeE (e.set i none) vs) xs (fun x hx => by
    obtain ⟨a, e3, q1, rfl, q2⟩ := (h x hx).ex
    exact ⟨e3, q1, q2⟩) (e.set i none) [] rfl (by simpa using hl)
  simp only [sLcH, h1, h2, h3, if_true, h4, R.bind, List.nil_append]
  rw [wipe_rest (e.set i none) vs e' (wipeE (e.set i none) vs) (by rw [h5, wipe_wipe])]
theorem lc_invM {g : GT} {c : SM Bool} {el : SE} {vs : List Nat} {f : α → Option D} (I : Env → Prop) : ∀ (xs : List α), (∀ x ∈ xs, ∀ e, I e → ∃ e3, lcStep g c el (G x) (wipeE e vs) = .ok (f x) e3 ∧ I e3) → ∀ (e : Env) (acc : List D), I e →
    acc.length + xs.length ≤ sizeLine → ∃ e', lcLoop g c el vs (xs.map G) e acc = .ok (acc ++ xs.filterMap f) e' ∧ I e'
  | [], _, e, acc, hw, _ => ⟨e, by simp [lcLoop], hw⟩
  | d :: ds, h, e, acc, hw, hl => by
    obtain ⟨e3, h1, h2⟩ := h d (by simp) e hw
    simp only [List.length_cons] at hl
    obtain ⟨e', h3, h4⟩ := lc_invM I ds (fun d hd => h d (by simp [hd])) e3 (acc ++ (f d).toList) h2 (by cases f d <;> simp <;> omega)
    refine ⟨e', ?_, h4⟩
    rw [List.map_cons, lc_step h1 (by omega), h3]
    congr 1
    cases q : f d <;> simp [List.filterMap_cons, q]
theorem wLcFI {it : SI} {g : GT} {c : SM Bool} {el : SE} {vs : List Nat} {e e1 : Env} {xs : List α} (f : α → Option D) (I : Env → Prop) (hi : it e = .ok (xs.map G) e1) (h0 : I e1) (h : ∀ x ∈ xs, ∀ e, I e → (lcStep g c el (G x) (wipeE e vs)).wp fun o e3 => o = f x ∧ I e3) (hl : xs.length ≤ sizeLine) :
    ∃ e', sLc it g c el vs e = .ok (.lst true (xs.filterMap f)) (restE e1 e' vs) ∧ I e' := by
  obtain ⟨e', h1, h2⟩ := lc_invM (G := G) (vs := vs) (f := f) I xs (fun d hd e hI => by
      obtain ⟨a, e3, h1, rfl, h2⟩ := (h d hd e hI).ex
      exact ⟨e3, h1, h2⟩) e1 [] h0 (by simpa using hl)
  exact ⟨e', by simp only [sLc, hi, R.bind, h1, List.nil_append], h2⟩
theorem wLcMI {it : SI} {g : GT} {c : SM Bool} {el : SE} {vs : List Nat} {e e1 : Env} {xs : List α} (f : α → D) (I : Env → Prop) (hi : it e = .ok (xs.map G) e1) (h0 : I e1) (h : ∀ x ∈ xs, ∀ e, I e → (lcStep g c el (G x) (wipeE e vs)).wp fun o e3 => o = some (f x) ∧ I e3) (hl : xs.length ≤ sizeLine) :
    ∃ e', sLc it g c el vs e = .ok (.lst true (xs.map f)) (restE e1 e' vs) ∧ I e' := by
  obtain ⟨e', h1, h2⟩ := wLcFI (fun x => some (f x)) I hi h0 h hl
  exact ⟨e', by rw [h1]; simp, h2⟩
theorem g_M {g : GT} {c : SM Bool} {el : SE} {vs : List Nat} {stop : Bool} {f : α → Bool} {W : Env} : ∀ (xs : List α), (∀ d ∈ xs, ∃ e3, lcStep g c el (G d) W = .ok (some (.bl (f d))) e3 ∧ wipeE e3 vs = W) → ∀ (e : Env), wipeE e vs = W →
    ∃ e', gLoop stop g c el vs (xs.map G) e = .ok (if xs.any (fun d => f d == stop) then stop else !stop) e' ∧ wipeE e' vs = W
  | [], _, e, hw => ⟨e, by simp [gLoop], hw⟩
  | d :: ds, h, e, hw => by
    obtain ⟨e3, h1, h2⟩ := h d (by simp)
    obtain ⟨e', h3, h4⟩ := g_M (stop := stop) ds (fun d hd => h d (by simp [hd])) e3 h2
    unfold lcStep at h1
    simp only [List.map_cons, gLoop, hw]
    cases q1 : g (G d) W with
    | none => rw [q1] at h1; cases h1
    | some e1 =>
      rw [q1] at h1
      simp only [] at h1 ⊢
      cases q2 : c e1 with
      | bad => rw [q2] at h1; cases h1
      | exc _ _ => rw [q2] at h1; cases h1
      | ok b e2 =>
        rw [q2] at h1
        simp only [R.bind] at h1 ⊢
        cases b with
        | false => simp only [Bool.false_eq_true, if_false] at h1; cases h1
        | true =>
          simp only [if_true] at h1 ⊢
          cases q3 : el e2 with
          | bad => rw [q3] at h1; cases h1
          | exc _ _ => rw [q3] at h1; cases h1
          | ok y e4 =>
            rw [q3] at h1
            cases h1
            simp only [List.any_cons, beq_iff_eq]
            by_cases z : f d = stop
            · simp only [z, if_true, beq_self_eq_true, Bool.true_or]
              exact ⟨_, rfl, h2⟩
            · simp only [z, if_false, show (f d == stop) = false by simpa using z, Bool.false_or]
              exact ⟨e', h3, h4⟩
theorem wAnyM {it : SI} {g : GT} {c : SM Bool} {el : SE} {vs : List Nat} {e e1 : Env} {xs : List α} (f : α → Bool) (hi : it e = .ok (xs.map G) e1) (h : ∀ d ∈ xs, (lcStep g c el (G d) (wipeE e1 vs)).wp fun o e3 => o = some (.bl (f d)) ∧ wipeE e3 vs = wipeE e1 vs) :
    sGen true it g c el vs e = .ok (.bl (xs.any f)) (restE e1 (wipeE e1 vs) vs) := by
  obtain ⟨e', h1, h2⟩ := g_M (G := G) (vs := vs) (stop := true) (f := f) xs (fun d hd => by
      obtain ⟨a, e3, h1, rfl, h2⟩ := (h d hd).ex
      exact ⟨e3, h1, h2⟩) e1 rfl
  simp only [sGen, hi, R.bind, h1]
  rw [wipe_rest e1 vs e' (wipeE e1 vs) (by rw [h2, wipe_wipe])]
  have : xs.any (fun d => f d == true) = xs.any f := by congr 1; funext d; cases f d <;> rfl
  rw [this]
  cases xs.any f <;> rfl
theorem wAllM {it : SI} {g : GT} {c : SM Bool} {el : SE} {vs : List Nat} {e e1 : Env} {xs : List α} (f : α → Bool) (hi : it e = .ok (xs.map G) e1) (h : ∀ d ∈ xs, (lcStep g c el (G d) (wipeE e1 vs)).wp fun o e3 => o = some (.bl (f d)) ∧ wipeE e3 vs = wipeE e1 vs) :
    sGen false it g c el vs e = .ok (.bl (xs.all f)) (restE e1 (wipeE e1 vs) vs) := by
  obtain ⟨e', h1, h2⟩ := g_M (G := G) (vs := vs) (stop := false) (f := f) xs (fun d hd => by
      obtain ⟨a, e3, h1, rfl, h2⟩ := (h d hd).ex
      exact ⟨e3, h1, h2⟩) e1 rfl
  simp only [sGen, hi, R.bind, h1]
  rw [wipe_rest e1 vs e' (wipeE e1 vs) (by rw [h2, wipe_wipe])]
  have : ∀ l : List α, (if l.any (fun d => f d == false) then false else !false) = l.all f := by
    intro l
    induction l with
    | nil => rfl
    | cons d l ih =>
      rw [List.any_cons, List.all_cons, ← ih]
      rcases Bool.eq_false_or_eq_true (f d) with z | z <;> rw [z] <;> rfl
  rw [this]
/-- for: over plain things, with what is done and what is left -/
theorem loop_M {g : GT} {b : SS} (I : List α → List α → Env → Prop) : ∀ (xs dn : List α), (∀ dn d ds e, I dn (d :: ds) e → gwp (g (G d) e) fun e1 => (b e1).wp (I (dn ++ [d]) ds) fun _ _ => False) → ∀ e, I dn xs e → ∃ e', loop g b (xs.map G) e = .nx e' ∧ I (dn ++ xs) [] e'
  | [], dn, _, e, h => ⟨e, rfl, by simpa using h⟩
  | d :: ds, dn, h, e, hi => by
    obtain ⟨e1, h1, h2⟩ := (h dn d ds e hi).ex
    cases q : b e1 with
    | nx e2 =>
      rw [q] at h2
      obtain ⟨e', h4, h5⟩ := loop_M I ds (dn ++ [d]) h e2 h2
      exact ⟨e', by simp only [List.map_cons, loop, h1, q, h4], by simpa using h5⟩
    | _ => rw [q] at h2; exact False.elim h2
theorem wforM {g : GT} {b : SS} {z : RS} {xs : List α} {e : Env} (hz : loop g b (xs.map G) e = z) (I : List α → List α → Env → Prop) (h0 : I [] xs e) (h : ∀ dn d ds e, dn ++ d :: ds = xs → I dn (d :: ds) e → gwp (g (G d) e) fun e1 => (b e1).wp (I (dn ++ [d]) ds) fun _ _ => False) : ∃ e', z = .nx e' ∧ I xs [] e' := by
  obtain ⟨e', h1, h2⟩ := loop_M (G := G) (g := g) (b := b) (fun dn ds e => dn ++ ds = xs ∧ I dn ds e) xs [] (fun dn d ds e ⟨h1, h2⟩ => by
    obtain ⟨e1, h3, h4⟩ := (h dn d ds e h1 h2).ex
    rw [h3]
    refine gwp_some.mpr ?_
    cases q : b e1 with
    | nx e2 => rw [q] at h4; exact ⟨by simpa using h1, h4⟩
    | _ => rw [q] at h4; exact h4) e ⟨rfl, h0⟩
  exact ⟨e', by rw [← hz, h1], by simpa using h2.2⟩
/-- .. each turn the same -/
theorem wforI {g : GT} {b : SS} {z : RS} {xs : List α} {e : Env} (hz : loop g b (xs.map G) e = z) (I : Env → Prop) (h0 : I e) (h : ∀ d ∈ xs, ∀ e, I e → gwp (g (G d) e) fun e1 => (b e1).wp I fun _ _ => False) : ∃ e', z = .nx e' ∧ I e' := by
  obtain ⟨e', h1, h2⟩ := wforM hz (fun _ _ => I) h0 fun dn d ds e hx => h d (by rw [← hx]; simp) e
  exact ⟨e', h1, h2⟩
end
end PV
set_option Elab.async false
set_option linter.all false
set_option maxRecDepth 100000
set_option maxHeartbeats 4000000
/-! Lowering round by round: plain. -/
namespace BF
abbrev Wi := Nat × Nat × Int
abbrev Tl := List (Option Int)
/-- what stands at a place -/
def at_ (t : Tl) (i : Nat) : Option Int := t.getD i none
/-- does a wish lower? -/
def low (t : Tl) (w : Wi) : Option Int := match at_ t w.1 with
  | none => none
  | some x => match at_ t w.2.1 with
    | none => some (x + w.2.2)
    | some y => if x + w.2.2 < y then some (x + w.2.2) else none
def rlx (t : Tl) (w : Wi) : Tl := match low t w with
  | none => t
  | some z => t.set w.2.1 (some z)
def ps (W : List Wi) (t : Tl) : Tl := W.foldl rlx t
def pk (W : List Wi) : Nat → Tl → Tl
  | 0, t => t
  | k + 1, t => pk W k (ps W t)
/-- at most, where none is above all -/
def Le (a b : Option Int) : Prop := ∀ y, b = some y → ∃ x, a = some x ∧ x ≤ y
theorem Le.refl (a : Option Int) : Le a a := fun y h => ⟨y, h, Int.le_refl y⟩
theorem Le.trans {a b c : Option Int} (h : Le a b) (h' : Le b c) : Le a c := fun y e => by
  obtain ⟨x, e1, l1⟩ := h' y e
  obtain ⟨z, e2, l2⟩ := h x e1
  exact ⟨z, e2, by omega⟩
theorem Le.antisymm {a b : Option Int} (h : Le a b) (h' : Le b a) : a = b := by
  cases a with
  | none => cases b with
    | none => rfl
    | some y => obtain ⟨x, e, _⟩ := h y rfl; cases e
  | some x => cases b with
    | none => obtain ⟨y, e, _⟩ := h' x rfl; cases e
    | some y =>
      obtain ⟨x', e1, l1⟩ := h y rfl
      obtain ⟨y', e2, l2⟩ := h' x rfl
      cases e1; cases e2
      congr 1
      omega
theorem at_set {t : Tl} {i j : Nat} {v : Option Int} (hj : j < t.length) : at_ (t.set j v) i = if i = j then v else at_ t i := by
  unfold at_
  rw [List.getD_eq_getElem?_getD, List.getD_eq_getElem?_getD, List.getElem?_set]
  by_cases h : i = j
  · subst h
    simp [hj]
  · have : ¬ j = i := fun e => h e.symm
    simp [h, this]
theorem at_lt {t : Tl} {i : Nat} {x : Int} (h : at_ t i = some x) : i < t.length := by
  unfold at_ at h
  rw [List.getD_eq_getElem?_getD] at h
  cases q : t[i]? with
  | none => rw [q] at h; cases h
  | some z => exact (List.getElem?_eq_some_iff.mp q).1
theorem tl_ext {t t' : Tl} (hl : t.length = t'.length) (h : ∀ i, at_ t i = at_ t' i) : t = t' := by
  apply List.ext_getElem hl
  intro i h1 h2
  have := h i
  unfold at_ at this
  simpa [List.getD_eq_getElem?_getD, h1, h2] using this
theorem rlx_len (t : Tl) (w : Wi) : (rlx t w).length = t.length := by
  unfold rlx
  cases low t w <;> simp
theorem ps_len (W : List Wi) (t : Tl) : (ps W t).length = t.length := by
  unfold ps
  induction W generalizing t with
  | nil => rfl
  | cons w W ih => rw [List.foldl_cons, ih, rlx_len]
theorem pk_len (W : List Wi) (k : Nat) (t : Tl) : (pk W k t).length = t.length := by
  induction k generalizing t with
  | zero => rfl
  | succ k ih => rw [pk, ih, ps_len]
theorem pk_succ (W : List Wi) (k : Nat) (t : Tl) : pk W (k + 1) t = ps W (pk W k t) := by
  induction k generalizing t with
  | zero => rfl
  | succ k ih => rw [pk, ih, pk]
theorem low_spec {t : Tl} {w : Wi} {z : Int} (h : low t w = some z) : ∃ x, at_ t w.1 = some x ∧ z = x + w.2.2 ∧ ∀ y, at_ t w.2.1 = some y → z < y := by
  unfold low at h
  cases q : at_ t w.1 with
  | none => rw [q] at h; cases h
  | some x =>
    rw [q] at h
    refine ⟨x, rfl, ?_⟩
    cases q2 : at_ t w.2.1 with
    | none => rw [q2] at h; cases h; exact ⟨rfl, fun y e => by cases e⟩
    | some y =>
      rw [q2] at h
      simp only [] at h
      split at h
      · cases h
        exact ⟨rfl, fun y' e => by cases e; assumption⟩
      · cases h
theorem low_none {t : Tl} {w : Wi} (h : low t w = none) {x : Int} (hx : at_ t w.1 = some x) : ∃ y, at_ t w.2.1 = some y ∧ y ≤ x + w.2.2 := by
  unfold low at h
  rw [hx] at h
  cases q2 : at_ t w.2.1 with
  | none => rw [q2] at h; cases h
  | some y =>
    rw [q2] at h
    simp only [] at h
    split at h
    · cases h
    · exact ⟨y, rfl, by omega⟩
theorem rlx_le (t : Tl) (w : Wi) (i : Nat) : Le (at_ (rlx t w) i) (at_ t i) := by
  unfold rlx
  cases q : low t w with
  | none => exact Le.refl _
  | some z =>
    obtain ⟨x, h1, h2, h3⟩ := low_spec q
    simp only []
    by_cases hj : w.2.1 < t.length
    · rw [at_set hj]
      split
      · rename_i e
        subst e
        exact fun y hy => ⟨z, rfl, by have := h3 y hy; omega⟩
      · exact Le.refl _
    · rw [List.set_eq_of_length_le (by omega)]
      exact Le.refl _
theorem rlx_hit (t : Tl) (w : Wi) (hj : w.2.1 < t.length) {x : Int} (hx : at_ t w.1 = some x) : ∃ y, at_ (rlx t w) w.2.1 = some y ∧ y ≤ x + w.2.2 := by
  unfold rlx
  cases q : low t w with
  | none => exact low_none q hx
  | some z =>
    obtain ⟨x', h1, h2, h3⟩ := low_spec q
    rw [hx] at h1
    cases h1
    simp only []
    rw [at_set hj, if_pos rfl]
    exact ⟨z, rfl, by omega⟩
theorem ps_le (W : List Wi) (t : Tl) (i : Nat) : Le (at_ (ps W t) i) (at_ t i) := by
  unfold ps
  induction W generalizing t with
  | nil => exact Le.refl _
  | cons w W ih => exact (ih (rlx t w)).trans (rlx_le t w i)
theorem pk_le (W : List Wi) (k : Nat) (t : Tl) (i : Nat) : Le (at_ (pk W k t) i) (at_ t i) := by
  induction k generalizing t with
  | zero => exact Le.refl _
  | succ k ih => exact (ih (ps W t)).trans (ps_le W t i)
theorem ps_hit {W : List Wi} {t : Tl} {w : Wi} (hw : w ∈ W) (hj : w.2.1 < t.length) {x : Int} (hx : at_ t w.1 = some x) : ∃ y, at_ (ps W t) w.2.1 = some y ∧ y ≤ x + w.2.2 := by
  induction W generalizing t x with
  | nil => cases hw
  | cons v W ih =>
    rcases List.mem_cons.mp hw with e | e
    · subst e
      obtain ⟨y, h1, h2⟩ := rlx_hit t w hj hx
      obtain ⟨z, h3, h4⟩ := ps_le W (rlx t w) w.2.1 y h1
      exact ⟨z, h3, by omega⟩
    · obtain ⟨x', h1, h2⟩ := rlx_le t v w.1 x hx
      obtain ⟨y, h3, h4⟩ := ih (t := rlx t v) e (by rw [rlx_len]; exact hj) h1
      exact ⟨y, h3, by omega⟩
/-- a row of wishes from i to j -/
def Wk (W : List Wi) : Nat → Nat → List Wi → Prop
  | i, j, [] => i = j
  | i, j, w :: l => w ∈ W ∧ w.1 = i ∧ Wk W w.2.1 j l
def cost : List Wi → Int
  | [] => 0
  | w :: l => w.2.2 + cost l
theorem cost_app (l m : List Wi) : cost (l ++ m) = cost l + cost m := by
  induction l with
  | nil => simp [cost]
  | cons w l ih => simp only [List.cons_append, cost, ih]; omega
theorem Wk.app {W : List Wi} : ∀ {i j k : Nat} {l m : List Wi}, Wk W i j l → Wk W j k m → Wk W i k (l ++ m)
  | i, j, k, [], m, h, h' => by
    have e : i = j := h
    subst e
    exact h'
  | i, j, k, w :: l, m, h, h' => ⟨h.1, h.2.1, Wk.app h.2.2 h'⟩
theorem Wk.split {W : List Wi} : ∀ {i j : Nat} {l m : List Wi}, Wk W i j (l ++ m) → ∃ k, Wk W i k l ∧ Wk W k j m
  | i, j, [], m, h => ⟨i, rfl, h⟩
  | i, j, w :: l, m, h => by
    obtain ⟨k, h1, h2⟩ := Wk.split h.2.2
    exact ⟨k, ⟨h.1, h.2.1, h1⟩, h2⟩
theorem low_walk {W : List Wi} : ∀ {l : List Wi} {k i j : Nat} {t : Tl} {x : Int}, (∀ w ∈ W, w.2.1 < t.length) → Wk W i j l → at_ t i = some x → l.length ≤ k → ∃ y, at_ (pk W k t) j = some y ∧ y ≤ x + cost l
  | [], k, i, j, t, x, hr, h, hx, hl => by
    have e : i = j := h
    subst e
    obtain ⟨y, h1, h2⟩ := pk_le W k t i x hx
    exact ⟨y, h1, by simp only [cost]; omega⟩
  | w :: l, k, i, j, t, x, hr, h, hx, hl => by
    obtain ⟨h1, h2, h3⟩ := h
    subst h2
    cases k with
    | zero => simp at hl
    | succ k =>
      obtain ⟨y, g1, g2⟩ := ps_hit h1 (hr w h1) hx
      obtain ⟨z, g3, g4⟩ := low_walk (t := ps W t) (k := k) (by rw [ps_len]; exact hr) h3 g1 (by simp at hl; omega)
      exact ⟨z, g3, by simp only [cost]; omega⟩
/-- each number is that of a begin and a row from it -/
def Wit (W : List Wi) (t0 t : Tl) : Prop := ∀ j y, at_ t j = some y → ∃ i x l, Wk W i j l ∧ at_ t0 i = some x ∧ y = x + cost l
theorem Wit.refl (W : List Wi) (t : Tl) : Wit W t t := fun j y h => ⟨j, y, [], rfl, h, by simp [cost]⟩
theorem Wit.rlx {W : List Wi} {t0 t : Tl} {w : Wi} (h : Wit W t0 t) (hw : w ∈ W) : Wit W t0 (rlx t w) := by
  unfold BF.rlx
  cases q : low t w with
  | none => exact h
  | some z =>
    obtain ⟨x, h1, h2, h3⟩ := low_spec q
    simp only []
    intro j y hy
    by_cases hj : w.2.1 < t.length
    · rw [at_set hj] at hy
      split at hy
      · rename_i e
        subst e
        cases hy
        obtain ⟨i, x0, l, g1, g2, g3⟩ := h _ _ h1
        exact ⟨i, x0, l ++ [w], g1.app ⟨hw, rfl, rfl⟩, g2, by rw [cost_app]; simp only [cost]; omega⟩
      · exact h j y hy
    · rw [List.set_eq_of_length_le (by omega)] at hy
      exact h j y hy
theorem Wit.fold {W : List Wi} {t0 : Tl} : ∀ (V : List Wi) {t : Tl}, (∀ w ∈ V, w ∈ W) → Wit W t0 t → Wit W t0 (V.foldl BF.rlx t)
  | [], t, _, h => h
  | w :: V, t, hv, h => Wit.fold V (fun v hv' => hv v (List.mem_cons_of_mem _ hv')) (h.rlx (hv w List.mem_cons_self))
theorem Wit.ps {W : List Wi} {t0 t : Tl} (h : Wit W t0 t) : Wit W t0 (ps W t) := Wit.fold W (fun _ h => h) h
theorem Wit.pk {W : List Wi} {t0 : Tl} (k : Nat) {t : Tl} (h : Wit W t0 t) : Wit W t0 (pk W k t) := by
  induction k generalizing t with
  | zero => exact h
  | succ k ih => exact ih h.ps
/-- numbers that keep all wishes -/
def Pot (W : List Wi) (π : Nat → Int) : Prop := ∀ w ∈ W, π w.2.1 ≤ π w.1 + w.2.2
theorem Pot.walk {W : List Wi} {π : Nat → Int} (h : Pot W π) : ∀ {l : List Wi} {i j : Nat}, Wk W i j l → π j ≤ π i + cost l
  | [], i, j, e => by
    have e : i = j := e
    subst e
    simp [cost]
  | w :: l, i, j, ⟨h1, h2, h3⟩ => by
    have := h w h1
    have := Pot.walk h h3
    subst h2
    simp only [cost]
    omega
/-- a row whose places are all different costs no more -/
theorem simple {W : List Wi} {π : Nat → Int} (h : Pot W π) : ∀ (l : List Wi) (i j : Nat), Wk W i j l → ∃ m, Wk W i j m ∧ cost m ≤ cost l ∧ (i :: m.map (·.2.1)).Nodup
  | [], i, j, e => ⟨[], e, Int.le_refl _, by simp⟩
  | w :: l, i, j, ⟨h1, h2, h3⟩ => by
    subst h2
    obtain ⟨m, g1, g2, g3⟩ := simple h l _ j h3
    by_cases hi : w.1 ∈ w.2.1 :: m.map (·.2.1)
    · -- the row comes back: it is cut
      rcases List.mem_cons.mp hi with e | e
      · refine ⟨m, by rw [e]; exact g1, ?_, by rw [e]; exact g3⟩
        have := h w h1
        rw [← e] at this
        simp only [cost]
        omega
      · obtain ⟨v, hv, ev⟩ := List.mem_map.mp e
        obtain ⟨m1, m2, rfl⟩ := List.append_of_mem hv
        have g1' : Wk W w.2.1 j ((m1 ++ [v]) ++ m2) := by simpa using g1
        obtain ⟨k, k1, k2⟩ := Wk.split g1'
        obtain ⟨k3, k4, k5⟩ := Wk.split k1
        have ek : v.2.1 = k := k5.2.2
        have ek' : k = w.1 := by rw [← ek, ev]
        subst ek'
        refine ⟨m2, k2, ?_, ?_⟩
        · have p1 := h.walk k1
          have p2 := h w h1
          have : cost (m1 ++ v :: m2) = cost (m1 ++ [v]) + cost m2 := by rw [← cost_app]; simp
          simp only [cost]
          omega
        · have g3' := g3
          rw [List.map_append, List.map_cons] at g3'
          have n1 := (List.nodup_cons.mp g3').2
          have n2 := (List.nodup_append.mp n1).2.1
          rw [← ev]
          exact n2
    · refine ⟨w :: m, ⟨h1, rfl, g1⟩, by simp only [cost]; omega, ?_⟩
      rw [List.map_cons]
      exact List.nodup_cons.mpr ⟨hi, g3⟩
theorem nodup_len : ∀ (n : Nat) (l : List Nat), l.Nodup → (∀ x ∈ l, x < n) → l.length ≤ n
  | 0, l, _, h => by
    cases l with
    | nil => simp
    | cons x l => exact absurd (h x List.mem_cons_self) (by omega)
  | n + 1, l, hn, h => by
    have h1 : (l.erase n).Nodup := hn.erase n
    have h2 : ∀ x ∈ l.erase n, x < n := fun x hx => by
      have := (List.Nodup.mem_erase_iff hn).mp hx
      have := h x this.2
      omega
    have h3 := nodup_len n (l.erase n) h1 h2
    by_cases hm : n ∈ l
    · rw [List.length_erase_of_mem hm] at h3
      omega
    · rw [List.erase_of_not_mem hm] at h3
      omega
theorem Wk.map_lt {W : List Wi} {n : Nat} (hr : ∀ w ∈ W, w.2.1 < n) : ∀ {l : List Wi} {i j : Nat}, Wk W i j l → ∀ x ∈ l.map (·.2.1), x < n
  | [], _, _, _, x, hx => by cases hx
  | w :: l, i, j, ⟨h1, _, h3⟩, x, hx => by
    rcases List.mem_cons.mp hx with e | e
    · subst e
      exact hr w h1
    · exact Wk.map_lt hr h3 x e
/-- THE LAW: where some numbers keep all wishes, the last of n rounds changes nothing -/
theorem stable {W : List Wi} {π : Nat → Int} (h : Pot W π) {t : Tl} {n : Nat} (hn : t.length = n) (h0 : 0 < n) (hr : ∀ w ∈ W, w.2.1 < n) : pk W n t = pk W (n - 1) t := by
  refine tl_ext (by rw [pk_len, pk_len]) fun j => Le.antisymm ?_ fun y hy => ?_
  · have e : n = n - 1 + 1 := by omega
    conv => lhs; rw [e]
    rw [pk_succ]
    exact ps_le _ _ _
  · obtain ⟨i, x, l, g1, g2, g3⟩ := (Wit.refl W t).pk n j y hy
    obtain ⟨m, k1, k2, k3⟩ := simple h l i j g1
    have hl := nodup_len n _ k3 fun z hz => by
      rcases List.mem_cons.mp hz with e | e
      · subst e
        have := at_lt g2
        omega
      · exact Wk.map_lt hr k1 z e
    simp only [List.length_cons, List.length_map] at hl
    obtain ⟨z, q1, q2⟩ := low_walk (k := n - 1) (by rw [hn]; exact hr) k1 g2 (by omega)
    exact ⟨z, q1, by omega⟩
end BF
set_option Elab.async false
set_option linter.all false
set_option maxRecDepth 100000
set_option maxHeartbeats 0
namespace L
open PySem PySem.Spec PyProof.Rows L2 PV
def top (i : Nat) : Stmt := PySem.Challenge.pw_staysbelow_k54_spans_and_idle_wishes.main.body.getD i (.Pass ⟨0, 0, 0, 0⟩)
/-! ## what each def does -/
section
variable [Tabs]
def errN : Nat → PySem.Str
  | 0 => "BelowError"
  | 1 => "OutOfRange"
  | 2 => "Malformed"
  | 3 => "NotThere"
  | 4 => "Refused"
  | 5 => "TooMuch"
  | _ => ""
def subE : Nat → Nat → Bool
  | 0, 0 => true
  | 1, 0 => true
  | 1, 1 => true
  | 2, 0 => true
  | 2, 2 => true
  | 3, 0 => true
  | 3, 3 => true
  | 4, 0 => true
  | 4, 4 => true
  | 5, 0 => true
  | 5, 5 => true
  | _, _ => false
/-- _law_told -/
def kp_9 : Nat → Bool := fun i => i == 0
def m_9 (at1 : PySem.Addr) (k1 : Nat) : SS := (sSeq (sSet 1 (sLstD (sCons (oTmp (sApp (sCons (oTmp (sC (.str "OutOfRange"))) (sCons (oTmp (sIsE at1 (oVar 0) (subE k1 1))) sNil)) fTupD)) (sCons (oTmp (sApp (sCons (oTmp (sC (.str "Malformed"))) (sCons (oTmp (sIsE at1 (oVar 0) (subE k1 2))) sNil)) fTupD)) (sCons (oTmp (sApp (sCons (oTmp (sC (.str "NotThere"))) (sCons (oTmp (sIsE at1 (oVar 0) (subE k1 3))) sNil)) fTupD)) (sCons (oTmp (sApp (sCons (oTmp (sC (.str "Refused"))) (sCons (oTmp (sIsE at1 (oVar 0) (subE k1 4))) sNil)) fTupD)) (sCons (oTmp (sApp (sCons (oTmp (sC (.str "TooMuch"))) (sCons (oTmp (sIsE at1 (oVar 0) (subE k1 5))) sNil)) fTupD)) sNil)))))))
    (sSeq (sSet 2 (sLcH 1 (qVar 1) (tgTup 2 (tgCons (tgName 3) (tgCons (tgName 4) tgNil))) (sTru (oVar 4)) (sVar 3) [3, 4]))
    (sSeq (sIf (sOr (sB (sTwo (oTmp (sApp (sCons (oVar 2) sNil) fLen)) (oTmp (sC (.int 1))) fNe)) (sNot (sB (sIsE at1 (oVar 0) (subE k1 0))))) (sRet (sC (.str "several"))) sSkip)
    (sRet (sTwo (oVar 2) (oTmp (sC (.int 0))) fIx)))))
def h_9 (at1 : PySem.Addr) (k1 : Nat) : FnD := mkF 1 5 kp_9 (m_9 at1 k1)
def wd_9 : Nat → PySem.Str
  | 0 => "several"
  | 1 => "OutOfRange"
  | 2 => "Malformed"
  | 3 => "NotThere"
  | 4 => "Refused"
  | 5 => "TooMuch"
  | _ => ""
theorem hv_9 (a : PySem.Addr) (k : Nat) (hk : k < 6) : h_9 a k [.adr a] = .ok (.str (wd_9 k)) [some (.adr a)] := by
  rcases k with _ | _ | _ | _ | _ | _ | k
  · exact told_none a (subE 0) (by decide +kernel)
  · exact told_one a (subE 1) "OutOfRange" (by decide +kernel) rfl
  · exact told_one a (subE 2) "Malformed" (by decide +kernel) rfl
  · exact told_one a (subE 3) "NotThere" (by decide +kernel) rfl
  · exact told_one a (subE 4) "Refused" (by decide +kernel) rfl
  · exact told_one a (subE 5) "TooMuch" (by decide +kernel) rfl
  · omega
def rt0 : Nat → Option D
  | 0 => some (.str "several")
  | 1 => some (.str "OutOfRange")
  | 2 => some (.str "Malformed")
  | 3 => some (.str "NotThere")
  | 4 => some (.str "Refused")
  | 5 => some (.str "TooMuch")
  | _ => none
theorem rt0_lt (k : Nat) (h : (rt0 k).isSome = true) : k < 6 := by
  rcases k with _ | _ | _ | _ | _ | _ | k <;> first | decide | (simp [rt0] at h; done)
def su0 (at1 : PySem.Addr) (k1 : Nat) : SE := (sCall 1 (h_9 at1 k1) (sCons (oVar 4) sNil))
theorem hsv0 (a : PySem.Addr) (k : Nat) (d : D) (e' : PV.Env) (h : rt0 k = some d) (hl : 4 < e'.length) : su0 a k (e'.set 4 (some (.adr a))) = .ok d (e'.set 4 (some (.adr a))) := by
  have hk := rt0_lt k (by rw [h]; rfl)
  have g : (e'.set 4 (some (D.adr a)))[4]? = some (some (D.adr a)) := List.getElem?_set_self hl
  have e : rt0 k = some (.str (wd_9 k)) := by
    rcases k with _ | _ | _ | _ | _ | _ | k <;> first | rfl | (exfalso; omega) | (simp [rt0] at h; done)
  rw [e] at h; cases h
  simp only [su0, sCall, mkF, sSeq, fEq_int, fNe_int, fEq_bl, fNe_bl, fEq_nn, fNe_nn, and_self, true_and, and_true, nat0, nat1, size_le, size_lt, Nat.zero_le, isFzs_ints, fzs_ints, rwp_ok, rwp_ite, swp_nx, swp_rt, swp_ite, gwp_some, gwp_ite, atI_0, thn_nx, thn_rt, thn_bk, thn_ct, thn_exc, thn_ite, sIf, toS_ok, toS_exc, toS_ite, bind_ok, bind_exc, bind_ite, sRet, sRetN, sSkip, sDrop, sSet, put, sVar, oVar, oTmp, sTwo, sOne, sC, rsv, rsvs, sApp, sCons, sNil, sB, sOr, sAnd, sNot, sNotV, sAndV, sOrV, sIfE, sCh, sIsi, isiTy, D.ty, tmps, sLstD, sQ, qApp, qCons, qNil, qTwo, qVar, qC, qOne, fI, fOr, fOrL, fAdd, fSub, fMul, fMod, fFdiv, fLt, fLe, fGt, fGe, fIs, fIsnt, fIsN, fB, D.isNon, fNeg, fI1, fI2, fInt, fLen, fIxQ, fMaxA, fMinA, fSumA, fSum, fSumT, fMax, fMaxT, fMin, fMinT, lstInts, tupInts, fTup, fLst, fTupD, fIx, iOf, isSeq, aTmps, fRg1_nat, fRg1_lit, fZip, sFor, sYes, sCall, pass, back, sPop, sApnd, sStore, sSl, sNoP, sSomP, fSl, sPar, tgName, tgTup, tgCons, tgNil, sMove, toF_rt, toF_nx, toF_exc, toF_ite, outs, lcStep, wipeE, restE, D.fz, fzs, D.isFz, isFzs, fLRev, Option.map_some, Option.map_none, Option.bind_some, Option.bind_none, Option.orElse_some, Option.orElse_none, Option.orElse, List.getElem?_cons_zero, List.getElem?_cons_succ, List.getElem?_nil, List.length_cons, List.length_nil, List.map_cons, List.map_nil, List.set_cons_zero, List.set_cons_succ, List.replicate_succ, List.replicate_zero, List.cons_append, List.nil_append, Nat.reduceAdd, Nat.reduceSub, Nat.reduceLT, Nat.reduceEqDiff, Nat.reduceLeDiff, Nat.zero_add, if_true, if_false, Bool.false_eq_true, Bool.not_true, Bool.not_false, decide_true, decide_false, Bool.and_true, Bool.true_and, Bool.and_false, Bool.false_and, Bool.or_true, Bool.true_or, Bool.or_false, Bool.false_or, beq_self_eq_true, reduceIte, String.reduceBEq, Nat.reduceBEq, Nat.reduceEqDiff, Int.reduceNeg, Int.reduceLE, Int.reduceLT, Int.reduceEq, decide_eq_true_eq, ite_self, D.int.injEq, ne_eq, reduceCtorEq, not_false_eq_true, not_true_eq_false, Nat.succ_ne_zero, g, pass, back, D.isFz, List.length_cons, List.length_nil, if_true, hv_9 a k hk, Option.map_some]
/-- are_kept -/
def kp_0 : Nat → Bool := fun i => i == 0 || i == 1
def m_0 (c : Nat → FnD) : SS := (sRet (sGen false (iOf (sVar 0) isSeq) (tgTup 3 (tgCons (tgName 2) (tgCons (tgName 3) (tgCons (tgName 4) tgNil)))) sYes (sTwo (oTmp (sTwo (oTmp (sTwo (oVar 1) (oVar 3) fIx)) (oTmp (sTwo (oVar 1) (oVar 2) fIx)) fSub)) (oVar 4) fLe) [2, 3, 4]))
/-- lowered -/
def kp_1 : Nat → Bool := fun i => i == 0 || i == 1
def m_1 (c : Nat → FnD) : SS := (sSeq (sSet 2 (sApp (sCons (oVar 2) sNil) fLst))
    (sSeq (sSet 3 (sLc (aTmps (sCons (oTmp (sVar 0)) sNil) fRg1) (tgName 10) sYes (sC .non) [10]))
    (sSeq (sFor (aTmps (sCons (oTmp (sVar 0)) sNil) fRg1) (tgName 4) (sSeq (sSet 5 (sC .non))
    (sSeq (sFor (aTmps (sCons (oTmp (sVar 1)) sNil) fEnumA) (tgTup 2 (tgCons (tgName 6) (tgCons (tgTup 3 (tgCons (tgName 7) (tgCons (tgName 8) (tgCons (tgName 9) tgNil)))) tgNil))) (sIf (sAnd (sB (sTwo (oTmp (sTwo (oVar 2) (oVar 7) fIx)) (oTmp (sC .non)) fIsnt)) (sOr (sB (sTwo (oTmp (sTwo (oVar 2) (oVar 8) fIx)) (oTmp (sC .non)) fIs)) (sB (sTwo (oTmp (sTwo (oTmp (sTwo (oVar 2) (oVar 7) fIx)) (oVar 9) fAdd)) (oTmp (sTwo (oVar 2) (oVar 8) fIx)) fLt)))) (sSeq (sStore 2 (sVar 8) (sTwo (oTmp (sTwo (oVar 2) (oVar 7) fIx)) (oVar 9) fAdd))
    (sSeq (sStore 3 (sVar 8) (sVar 6))
    (sSet 5 (sVar 8)))) sSkip))
    (sIf (sB (sTwo (oVar 5) (oTmp (sC .non)) fIs)) (sRet (sApp (sCons (oTmp (sVar 2)) (sCons (oTmp (sVar 3)) (sCons (oTmp (sC .non)) sNil))) fTupD)) sSkip))))
    (sRet (sApp (sCons (oTmp (sVar 2)) (sCons (oTmp (sVar 3)) (sCons (oTmp (sVar 5)) sNil))) fTupD)))))
/-- latest -/
def kp_2 : Nat → Bool := fun i => i == 0 || i == 1
def m_2 (c : Nat → FnD) : SS := (sSeq (sAsg (sCall 3 (c 1) (sCons (oVar 0) (sCons (oVar 1) (sCons (oTmp (sLc (aTmps (sCons (oTmp (sVar 0)) sNil) fRg1) (tgName 5) sYes (sC (.int 0)) [5])) sNil)))) (tgTup 3 (tgCons (tgName 2) (tgCons (tgName 3) (tgCons (tgName 4) tgNil)))))
    (sRet (sIfE (sB (sTwo (oVar 4) (oTmp (sC .non)) fIs)) (sApp (sCons (oVar 2) sNil) fTup) (sC .non))))
/-- least_sum -/
def kp_3 : Nat → Bool := fun i => i == 0 || i == 1 || i == 2 || i == 3
def m_3 (c : Nat → FnD) : SS := (sSeq (sSet 4 (sLc (aTmps (sCons (oTmp (sVar 0)) sNil) fRg1) (tgName 5) sYes (sIfE (sB (sTwo (oVar 5) (oVar 2) fEq)) (sC (.int 0)) (sC .non)) [5]))
    (sRet (sTwo (oTmp (sTwo (oTmp (sCall 3 (c 1) (sCons (oVar 0) (sCons (oVar 1) (sCons (oVar 4) sNil))))) (oTmp (sC (.int 0))) fIx)) (oVar 3) fIx)))
/-- span -/
def kp_4 : Nat → Bool := fun i => i == 0 || i == 1 || i == 2 || i == 3
def m_4 (c : Nat → FnD) : SS := (sSeq (sIf (sB (sTwo (oTmp (sCall 2 (c 2) (sCons (oVar 0) (sCons (oVar 1) sNil)))) (oTmp (sC .non)) fIs)) (sRaise 4) sSkip)
    (sRet (sCall 4 (c 3) (sCons (oVar 0) (sCons (oVar 1) (sCons (oVar 2) (sCons (oVar 3) sNil)))))))
/-- idle -/
def kp_5 : Nat → Bool := fun i => i == 0 || i == 1 || i == 2
def m_5 (c : Nat → FnD) : SS := (sSeq (sSet 3 (sTwo (oTmp (sSl (oVar 1) sNoP (sSomP (sVar 2)))) (oTmp (sSl (oVar 1) (sSomP (sTwo (oVar 2) (oTmp (sC (.int 1))) fAdd)) sNoP)) fAdd))
    (sSeq (sIf (sB (sTwo (oTmp (sCall 2 (c 2) (sCons (oVar 0) (sCons (oVar 3) sNil)))) (oTmp (sC .non)) fIs)) (sRet (sC (.bl true))) sSkip)
    (sSeq (sAsg (sTwo (oVar 1) (oVar 2) fIx) (tgTup 3 (tgCons (tgName 4) (tgCons (tgName 5) (tgCons (tgName 6) tgNil)))))
    (sSeq (sSet 7 (sCall 4 (c 3) (sCons (oVar 0) (sCons (oVar 3) (sCons (oVar 4) (sCons (oVar 5) sNil))))))
    (sRet (sAndV (sTwo (oVar 7) (oTmp (sC .non)) fIsnt) (sTwo (oVar 7) (oVar 6) fLe)))))))
/-- _law_open -/
def kp_6 : Nat → Bool := fun i => i == 0
def m_6 (c : Nat → FnD) : SS := (sSeq (sSet 1 (sLc (iOf (sSl (oVar 0) sNoP (sSomP (sC (.int 63)))) isSeq) (tgName 2) sYes (sApp (sCons (oTmp (sApp (sCons (oVar 2) sNil) fInt)) sNil) (fI1 fun i => .int (if i < 0 then -i else i))) [2]))
    (sRet (sLstD (sCons (oTmp (sC (.int 0))) (sCons (oTmp (sC (.int 0))) (sCons (oTmp (sTwo (oVar 1) (oTmp (sLstD (sCons (oTmp (sC (.int 0))) sNil))) fAdd)) sNil))))))
/-- _law_mixed -/
def kp_7 : Nat → Bool := fun i => i == 0 || i == 1
def m_7 (c : Nat → FnD) : SS := (sSeq (sSet 2 (sTwo (oTmp (sTwo (oTmp (sTwo (oTmp (sTwo (oTmp (sTwo (oVar 0) (oTmp (sTwo (oTmp (sTwo (oTmp (sC (.int 2))) (oTmp (sC (.int 61))) fPow)) (oTmp (sC (.int 1))) fSub)) fMod)) (oTmp (sC (.int 6364136223846793005))) fMul)) (oTmp (sTwo (oVar 1) (oTmp (sC (.int 1442695040888963407))) fMul)) fAdd)) (oTmp (sC (.int 97))) fAdd)) (oTmp (sTwo (oTmp (sC (.int 2))) (oTmp (sC (.int 61))) fPow)) fMod))
    (sSeq (sSet 2 (sTwo (oTmp (sTwo (oTmp (sTwo (oVar 2) (oTmp (sTwo (oVar 2) (oTmp (sC (.int 29))) fShr)) fXor)) (oTmp (sC (.int 3935559000370003845))) fMul)) (oTmp (sTwo (oTmp (sC (.int 2))) (oTmp (sC (.int 61))) fPow)) fMod))
    (sRet (sTwo (oTmp (sTwo (oTmp (sTwo (oVar 2) (oTmp (sTwo (oVar 2) (oTmp (sC (.int 31))) fShr)) fXor)) (oTmp (sC (.int 2862933555777941757))) fMul)) (oTmp (sTwo (oTmp (sC (.int 2))) (oTmp (sC (.int 61))) fPow)) fMod))))
/-- _law_draw -/
def kp_8 : Nat → Bool := fun i => i == 0 || i == 1
def m_8 (c : Nat → FnD) : SS := (sSeq (sUnpL 0 3 (tgCons (tgName 2) (tgCons (tgName 3) (tgCons (tgName 4) tgNil))))
    (sSeq (sIf (sB (sTwo (oVar 3) (oVar 1) fLt)) (sSeq (sSet 5 (sTwo (oVar 4) (oTmp (sTwo (oVar 2) (oTmp (sApp (sCons (oVar 4) sNil) fLen)) fMod)) fIx))
    (sSeq (sSet 3 (sIfE (sAnd (sB (sTwo (oVar 2) (oTmp (sApp (sCons (oVar 4) sNil) fLen)) fLt)) (sB (sTwo (oVar 5) (oTmp (sTwo (oTmp (sC (.int 10))) (oTmp (sC (.int 18))) fPow)) fGe))) (sVar 5) (sCall 2 (c 7) (sCons (oVar 5) (sCons (oVar 2) sNil)))))
    (sSet 2 (sTwo (oVar 2) (oTmp (sC (.int 1))) fAdd)))) sSkip)
    (sSeq (sStore 0 (sC (.int 0)) (sVar 2))
    (sSeq (sStore 0 (sC (.int 1)) (sTwo (oVar 3) (oVar 1) fFdiv))
    (sRet (sTwo (oVar 3) (oVar 1) fMod))))))
/-- _law_int -/
def kp_10 : Nat → Bool := fun i => i == 0
def m_10 (c : Nat → FnD) : SS := (sRet (sAndV (sIsi (oVar 0) "int") (sNotV (sIsi (oVar 0) "bool"))))
/-- _law_same -/
def kp_11 : Nat → Bool := fun i => i == 0 || i == 1
def m_11 (c : Nat → FnD) : SS := (sRet (sIfE (sTru (oVar 1)) (sTwo (oVar 0) (oTmp (sC (.bl true))) fIs) (sTwo (oVar 0) (oTmp (sC (.bl false))) fIs)))
/-- _law_wishes -/
def kp_12 : Nat → Bool := fun i => i == 0 || i == 1 || i == 2
def m_12 (c : Nat → FnD) : SS := (sSeq (sSet 3 (sLc (aTmps (sCons (oTmp (sVar 1)) sNil) fRg1) (tgName 10) sYes (sCall 2 (c 8) (sCons (oVar 0) (sCons (oTmp (sC (.int 12))) sNil))) [10]))
    (sSeq (sSet 4 (sCall 2 (c 8) (sCons (oVar 0) (sCons (oTmp (sC (.int 3))) sNil))))
    (sSeq (sSet 5 (sLstD sNil))
    (sSeq (sFor (aTmps (sCons (oTmp (sIfE (sB (sTwo (oVar 1) (oTmp (sC (.int 1))) fGt)) (sCall 2 (c 8) (sCons (oVar 0) (sCons (oTmp (sTwo (oVar 2) (oTmp (sC (.int 1))) fAdd)) sNil))) (sC (.int 0)))) sNil) fRg1) (tgName 6) (sSeq (sSet 7 (sCall 2 (c 8) (sCons (oVar 0) (sCons (oVar 1) sNil))))
    (sSeq (sSet 8 (sTwo (oTmp (sApp (sCons (oTmp (sTwo (oTmp (sTwo (oVar 7) (oTmp (sC (.int 1))) fAdd)) (oTmp (sCall 2 (c 8) (sCons (oVar 0) (sCons (oTmp (sTwo (oVar 1) (oTmp (sC (.int 1))) fSub)) sNil)))) fAdd)) sNil) fInt)) (oVar 1) fMod))
    (sSeq (sSet 9 (sTwo (oTmp (sTwo (oVar 3) (oVar 8) fIx)) (oTmp (sTwo (oVar 3) (oVar 7) fIx)) fSub))
    (sDrop (sApnd 5 (sApp (sCons (oTmp (sVar 7)) (sCons (oTmp (sVar 8)) (sCons (oTmp (sTwo (oTmp (sTwo (oVar 9) (oTmp (sCall 2 (c 8) (sCons (oVar 0) (sCons (oTmp (sTwo (oTmp (sLstD (sCons (oTmp (sC (.int 4))) (sCons (oTmp (sC (.int 3))) (sCons (oTmp (sC (.int 7))) sNil))))) (oVar 4) fIx)) sNil)))) fAdd)) (oTmp (sTwo (oTmp (sLstD (sCons (oTmp (sC (.int 0))) (sCons (oTmp (sC (.int 1))) (sCons (oTmp (sC (.int 5))) sNil))))) (oVar 4) fIx)) fSub)) sNil))) fTupD)))))))
    (sRet (sApp (sCons (oVar 5) sNil) fTup))))))
/-- _law_least -/
def kp_13 : Nat → Bool := fun i => i == 0 || i == 1 || i == 2
def m_13 (c : Nat → FnD) : SS := (sSeq (sSet 3 (sLc (aTmps (sCons (oTmp (sVar 0)) sNil) fRg1) (tgName 9) sYes (sIfE (sB (sTwo (oVar 9) (oVar 2) fIn)) (sC (.int 0)) (sC .non)) [9]))
    (sSeq (sFor (aTmps (sCons (oTmp (sTwo (oVar 0) (oTmp (sC (.int 1))) fAdd)) sNil) fRg1) (tgName 4) (sSeq (sSet 5 (sApp (sCons (oVar 3) sNil) fLst))
    (sSeq (sFor (iOf (sVar 1) isSeq) (tgTup 3 (tgCons (tgName 6) (tgCons (tgName 7) (tgCons (tgName 8) tgNil)))) (sIf (sAnd (sB (sTwo (oTmp (sTwo (oVar 3) (oVar 6) fIx)) (oTmp (sC .non)) fIsnt)) (sOr (sB (sTwo (oTmp (sTwo (oVar 3) (oVar 7) fIx)) (oTmp (sC .non)) fIs)) (sB (sTwo (oTmp (sTwo (oTmp (sTwo (oVar 3) (oVar 6) fIx)) (oVar 8) fAdd)) (oTmp (sTwo (oVar 3) (oVar 7) fIx)) fLt)))) (sStore 3 (sVar 7) (sTwo (oTmp (sTwo (oVar 3) (oVar 6) fIx)) (oVar 8) fAdd)) sSkip))
    (sIf (sB (sTwo (oVar 3) (oVar 5) fEq)) (sRet (sMove 3)) sSkip))))
    (sRet (sC .non))))
/-- _law_span -/
def kp_14 : Nat → Bool := fun i => i == 0 || i == 1 || i == 2 || i == 3
def m_14 (c : Nat → FnD) : SS := (sTry 4 (sRet (sCall 4 (c 4) (sCons (oVar 0) (sCons (oVar 1) (sCons (oVar 2) (sCons (oVar 3) sNil)))))) rt0)
/-- law -/
def kp_15 : Nat → Bool := fun i => i == 0
def m_15 (c : Nat → FnD) : SS := (sSeq (sSet 1 (sCall 1 (c 6) (sCons (oVar 0) sNil)))
    (sSeq (sSet 2 (sTwo (oTmp (sC (.int 2))) (oTmp (sCall 2 (c 8) (sCons (oVar 1) (sCons (oTmp (sTwo (oTmp (sLstD (sCons (oTmp (sC (.int 3))) (sCons (oTmp (sC (.int 7))) sNil)))) (oTmp (sCall 2 (c 8) (sCons (oVar 1) (sCons (oTmp (sC (.int 2))) sNil)))) fIx)) sNil)))) fAdd))
    (sSeq (sSet 3 (sCall 3 (c 12) (sCons (oVar 1) (sCons (oVar 2) (sCons (oTmp (sTwo (oTmp (sLstD (sCons (oTmp (sC (.int 4))) (sCons (oTmp (sC (.int 16))) sNil)))) (oTmp (sCall 2 (c 8) (sCons (oVar 1) (sCons (oTmp (sC (.int 2))) sNil)))) fIx)) sNil)))))
    (sSeq (sSet 4 (sTwo (oTmp (sCall 3 (c 13) (sCons (oVar 2) (sCons (oVar 3) (sCons (oTmp (sOne (oVar 2) fLRg)) sNil))))) (oTmp (sC .non)) fIsnt))
    (sSeq (sIf (sB (sTwo (oTmp (sTwo (oTmp (sCall 2 (c 2) (sCons (oVar 2) (sCons (oVar 3) sNil)))) (oTmp (sC .non)) fIsnt)) (oVar 4) fNe)) (sRet (sC (.bl false))) sSkip)
    (sSeq (sFor (aTmps (sCons (oTmp (sVar 2)) sNil) fRg1) (tgName 5) (sSeq (sSet 6 (sCall 3 (c 13) (sCons (oVar 2) (sCons (oVar 3) (sCons (oTmp (sLstD (sCons (oTmp (sVar 5)) sNil))) sNil)))))
    (sSeq (sFor (aTmps (sCons (oTmp (sVar 2)) sNil) fRg1) (tgName 7) (sSeq (sSet 8 (sCall 4 (c 14) (sCons (oVar 2) (sCons (oVar 3) (sCons (oVar 5) (sCons (oVar 7) sNil))))))
    (sIf (sNot (sTru (oVar 4))) (sIf (sB (sTwo (oVar 8) (oTmp (sC (.str "Refused"))) fNe)) (sRet (sC (.bl false))) sSkip) (sIf (sOr (sB (sTwo (oVar 8) (oTmp (sTwo (oVar 6) (oVar 7) fIx)) fNe)) (sAnd (sB (sTwo (oVar 8) (oTmp (sC .non)) fIsnt)) (sNot (sB (sCall 1 (c 10) (sCons (oVar 8) sNil)))))) (sRet (sC (.bl false))) sSkip))))
    (sIf (sTru (oVar 4)) (sSeq (sSet 9 (sLc (iOf (sVar 6) isSeq) (tgName 14) sYes (sIfE (sB (sTwo (oVar 14) (oTmp (sC .non)) fIs)) (sC (.int 0)) (sVar 14)) [14]))
    (sSeq (sIf (sB (sTwo (oTmp (sApp (sCons (oVar 9) sNil) fMinA)) (oTmp (sOne (oTmp (sTwo (oTmp (sC (.int 10))) (oTmp (sC (.int 7))) fPow)) fNeg)) fLt)) (sRet (sC (.bl false))) sSkip)
    (sSeq (sSet 10 (sCall 2 (c 2) (sCons (oVar 2) (sCons (oVar 3) sNil))))
    (sSeq (sSet 11 (sApp (sCons (oTmp (sLc (aTmps (sCons (oTmp (sVar 2)) sNil) fRg1) (tgName 18) sYes (sIfE (sB (sTwo (oTmp (sTwo (oVar 6) (oVar 18) fIx)) (oTmp (sC .non)) fIs)) (sTwo (oTmp (sTwo (oVar 10) (oVar 18) fIx)) (oTmp (sTwo (oTmp (sC (.int 10))) (oTmp (sC (.int 9))) fPow)) fAdd) (sTwo (oVar 6) (oVar 18) fIx)) [18])) sNil) fTup))
    (sIf (sB (sTwo (oTmp (sCall 2 (c 0) (sCons (oVar 3) (sCons (oVar 11) sNil)))) (oTmp (sC (.bl true))) fIsnt)) (sRet (sC (.bl false))) sSkip))))) sSkip))))
    (sSeq (sFor (aTmps (sCons (oTmp (sApp (sCons (oVar 3) sNil) fLen)) sNil) fRg1) (tgName 12) (sSeq (sSet 13 (sTwo (oTmp (sSl (oVar 3) sNoP (sSomP (sVar 12)))) (oTmp (sSl (oVar 3) (sSomP (sTwo (oVar 12) (oTmp (sC (.int 1))) fAdd)) sNoP)) fAdd))
    (sSeq (sAsg (sTwo (oVar 3) (oVar 12) fIx) (tgTup 3 (tgCons (tgName 14) (tgCons (tgName 15) (tgCons (tgName 16) tgNil)))))
    (sSeq (sSet 17 (sC (.bl true)))
    (sSeq (sIf (sB (sTwo (oTmp (sCall 3 (c 13) (sCons (oVar 2) (sCons (oVar 13) (sCons (oTmp (sOne (oVar 2) fLRg)) sNil))))) (oTmp (sC .non)) fIsnt)) (sSeq (sSet 6 (sTwo (oTmp (sCall 3 (c 13) (sCons (oVar 2) (sCons (oVar 13) (sCons (oTmp (sLstD (sCons (oTmp (sVar 14)) sNil))) sNil))))) (oVar 15) fIx))
    (sSet 17 (sAndV (sTwo (oVar 6) (oTmp (sC .non)) fIsnt) (sTwo (oVar 6) (oVar 16) fLe)))) sSkip)
    (sIf (sNot (sB (sCall 2 (c 11) (sCons (oTmp (sCall 3 (c 5) (sCons (oVar 2) (sCons (oVar 3) (sCons (oVar 12) sNil))))) (sCons (oVar 17) sNil))))) (sRet (sC (.bl false))) sSkip))))))
    (sRet (sC (.bl true))))))))))
end
/-! ## each body does it -/
structure Facts (K : PySem.W.Frag) (mg : Str → Option Value) : Prop where
  b_abs : mg "abs" = none
  b_all : mg "all" = none
  b_bool : mg "bool" = none
  b_enumerate : mg "enumerate" = none
  b_int : mg "int" = none
  b_isinstance : mg "isinstance" = none
  b_len : mg "len" = none
  b_list : mg "list" = none
  b_min : mg "min" = none
  b_range : mg "range" = none
  b_tuple : mg "tuple" = none
  r_Refused : RaiseC K mg "Refused"
  cg : ∀ k, k < 6 → mg (errN k) = some (.ref (He.ga K (errN k)))
  ec : ∀ k, k < 6 → ExcC K (He.ga K (errN k))
  ki : ∀ k t, k < 6 → t < 6 → PySem.W.kitOne K (.ref (He.ga K (errN k))) (.ref (He.ga K (errN t))) = some (subE k t)
  xm0 : ∀ k, k < 6 → PySem.W.exmOne K (.ref (He.ga K (errN k))) (.ref (He.ga K (errN 0))) = some true
structure Fns [Tabs] (P : Program) (w : World) (K : PySem.W.Frag) (mg : Str → Option Value) (base : Heap) (cv : Nat → Value) (j : Nat) (c : Nat → FnD) : Prop where
  f0 : FnAt P w K mg base cv j "are_kept" ["wishes", "value"] (c 0)
  f1 : FnAt P w K mg base cv j "lowered" ["many", "wishes", "told"] (c 1)
  f2 : FnAt P w K mg base cv j "latest" ["many", "wishes"] (c 2)
  f3 : FnAt P w K mg base cv j "least_sum" ["many", "wishes", "first", "second"] (c 3)
  f4 : FnAt P w K mg base cv j "span" ["many", "wishes", "first", "second"] (c 4)
  f5 : FnAt P w K mg base cv j "idle" ["many", "wishes", "number"] (c 5)
  f6 : FnAt P w K mg base cv j "_law_open" ["script"] (c 6)
  f7 : FnAt P w K mg base cv j "_law_mixed" ["cell", "turn"] (c 7)
  f8 : FnAt P w K mg base cv j "_law_draw" ["draws", "size"] (c 8)
  f10 : FnAt P w K mg base cv j "_law_int" ["value"] (c 10)
  f11 : FnAt P w K mg base cv j "_law_same" ["told", "due"] (c 11)
  f12 : FnAt P w K mg base cv j "_law_wishes" ["draws", "many", "most"] (c 12)
  f13 : FnAt P w K mg base cv j "_law_least" ["many", "wishes", "first"] (c 13)
  f14 : FnAt P w K mg base cv j "_law_span" ["many", "wishes", "first", "second"] (c 14)
  f15 : FnAt P w K mg base cv j "law" ["script"] (c 15)
  h9 : FnAtX P w K mg base cv "_law_told" ["error"] (fun k => k < 6) h_9
section
variable [Tabs] {P : Program} {w : World} {K : PySem.W.Frag} {mg : Str → Option Value} {base : Heap} {cv : Nat → Value} {j : Nat} {c : Nat → FnD}
theorem nd_0 : (["wishes", "value", "i", "j", "b"] : List Str).Nodup := by decide +kernel
theorem sc_0 : FnScope ["wishes", "value", "i", "j", "b"] ["wishes", "value"] (L2.defScope (top 8)) := ⟨rfl, rfl, rfl, by decide +kernel, rfl, by decide +kernel, by decide +kernel⟩
theorem bd_0 (fc : Facts K mg) (hcv : ∀ k, cv k = .ref (He.ga K (errN k))) (fs : Fns P w K mg base cv j c) {f : Addr} {cdv : Value} {A : Around} {outer : List PySem.Env} {s : Shared} {H : Hp} {E : XK} (a : At (cxOf (L2N.CX P w) P w K mg base ["wishes", "value", "i", "j", "b"] "are_kept" (L2.defScope (top 8)) f cdv A outer s H E) (fun cls d _ H => E cls d H) j) {c0 Pt : Addr} (hr : Room (2 * j + 1) (A.deeper (envOfC "are_kept" (L2.defScope (top 8)) s.heap.objs.size f cdv))) (hT : Tabs.T Pt) (TB : GxR.TabB base mg c0 Pt) (hcode : cdv = .ref c0)
    (pa : PassesOwn (model P w) (A.deeper (envOfC "are_kept" (L2.defScope (top 8)) s.heap.objs.size f cdv)) (envOfC "are_kept" (L2.defScope (top 8)) s.heap.objs.size f cdv) (cxOf (L2N.CX P w) P w K mg base ["wishes", "value", "i", "j", "b"] "are_kept" (L2.defScope (top 8)) f cdv A outer s H E).xe) :
    PSs (cxOf (L2N.CX P w) P w K mg base ["wishes", "value", "i", "j", "b"] "are_kept" (L2.defScope (top 8)) f cdv A outer s H E) (L2.defBody (top 8)) (ss K cv (fun cls d _ H => E cls d H) kp_0 (m_0 c)) :=
  have nd := nd_0
  (qss_one (qs_ret (kGen [("i", 2), ("j", 3), ("b", 4)] nd a hr hT TB hcode fc.b_all (qi_seq (eV 0)) (fun s H C code A fp => (gTu 3 a.calm (gC (gN 2 nd) (gC (gN 3 nd) (gC (gN 4 nd) qgs_nil))))) (fun s H C code A fp a => qts_nil) (fun s H C code A fp a => (cLe a (po_tmp (bSub (po_tmp (bIx (oV 1) (oV 3))) (po_tmp (bIx (oV 1) (oV 2))))) (oV 4))))))
theorem nd_1 : (["many", "wishes", "told", "by", "turn", "changed", "number", "i", "j", "b", "place"] : List Str).Nodup := by decide +kernel
theorem sc_1 : FnScope ["many", "wishes", "told", "by", "turn", "changed", "number", "i", "j", "b", "place"] ["many", "wishes", "told"] (L2.defScope (top 9)) := ⟨rfl, rfl, rfl, by decide +kernel, rfl, by decide +kernel, by decide +kernel⟩
theorem bd_1 (fc : Facts K mg) (hcv : ∀ k, cv k = .ref (He.ga K (errN k))) (fs : Fns P w K mg base cv j c) {f : Addr} {cdv : Value} {A : Around} {outer : List PySem.Env} {s : Shared} {H : Hp} {E : XK} (a : At (cxOf (L2N.CX P w) P w K mg base ["many", "wishes", "told", "by", "turn", "changed", "number", "i", "j", "b", "place"] "lowered" (L2.defScope (top 9)) f cdv A outer s H E) (fun cls d _ H => E cls d H) j)
    (pa : PassesOwn (model P w) (A.deeper (envOfC "lowered" (L2.defScope (top 9)) s.heap.objs.size f cdv)) (envOfC "lowered" (L2.defScope (top 9)) s.heap.objs.size f cdv) (cxOf (L2N.CX P w) P w K mg base ["many", "wishes", "told", "by", "turn", "changed", "number", "i", "j", "b", "place"] "lowered" (L2.defScope (top 9)) f cdv A outer s H E).xe) :
    PSs (cxOf (L2N.CX P w) P w K mg base ["many", "wishes", "told", "by", "turn", "changed", "number", "i", "j", "b", "place"] "lowered" (L2.defScope (top 9)) f cdv A outer s H E) (L2.defBody (top 9)) (ss K cv (fun cls d _ H => E cls d H) kp_1 (m_1 c)) :=
  have nd := nd_1
  (qss_cons (zSet 2 nd (kList fc.b_list (aC (oV 2) aN)))
    (qss_cons (by first | exact zSetLc 3 [("place", 10)] nd a (iR1 fc.b_range (aC (po_tmp (eV 0)) aN)) (fun s H C cl fp => (gN 10 nd)) (fun s H C cl fp a => qts_nil) (fun s H C cl fp a => px_non) | exact zSet 3 nd (kLc [("place", 10)] nd a (iR1 fc.b_range (aC (po_tmp (eV 0)) aN)) (fun s H C cl fp => (gN 10 nd)) (fun s H C cl fp a => qts_nil) (fun s H C cl fp a => px_non)))
    (qss_cons (zFor pa a.calm (iR1 fc.b_range (aC (po_tmp (eV 0)) aN)) (gN 4 nd) (qss_cons (zSet 5 nd px_non)
    (qss_cons (zFor pa a.calm (iEnumA fc.b_enumerate (aC (po_tmp (eV 1)) aN)) (gTu 2 a.calm (gC (gN 6 nd) (gC (gTu 3 a.calm (gC (gN 7 nd) (gC (gN 8 nd) (gC (gN 9 nd) qgs_nil)))) qgs_nil))) (qss_one (qs_if (PW.pt (pw_andS (tIsnt (po_tmp (bIx (oV 2) (oV 7))) (po_tmp px_non)) (pw_and1 (PW.pt (pw_orS (tIs (po_tmp (bIx (oV 2) (oV 8))) (po_tmp px_non)) (pw_or1 (tLt a (po_tmp (bAdd (po_tmp (bIx (oV 2) (oV 7))) (oV 9))) (po_tmp (bIx (oV 2) (oV 8)))))))))) (qss_cons (zStore 2 (bAdd (po_tmp (bIx (oV 2) (oV 7))) (oV 9)) (eV 8))
    (qss_cons (zStore 3 (eV 6) (eV 8))
    (qss_one (zSet 5 nd (eV 8))))) qss_nil)))
    (qss_one (qs_if (tIs (oV 5) (po_tmp px_non)) (qss_one (qs_ret (px_tupD (aC (po_tmp (eV 2)) (aC (po_tmp (eV 3)) (aC (po_tmp px_non) aN)))))) qss_nil)))))
    (qss_one (qs_ret (px_tupD (aC (po_tmp (eV 2)) (aC (po_tmp (eV 3)) (aC (po_tmp (eV 5)) aN)))))))))
theorem nd_2 : (["many", "wishes", "told", "by", "changed", "place"] : List Str).Nodup := by decide +kernel
theorem sc_2 : FnScope ["many", "wishes", "told", "by", "changed", "place"] ["many", "wishes"] (L2.defScope (top 10)) := ⟨rfl, rfl, rfl, by decide +kernel, rfl, by decide +kernel, by decide +kernel⟩
theorem bd_2 (fc : Facts K mg) (hcv : ∀ k, cv k = .ref (He.ga K (errN k))) (fs : Fns P w K mg base cv j c) {f : Addr} {cdv : Value} {A : Around} {outer : List PySem.Env} {s : Shared} {H : Hp} {E : XK} (a : At (cxOf (L2N.CX P w) P w K mg base ["many", "wishes", "told", "by", "changed", "place"] "latest" (L2.defScope (top 10)) f cdv A outer s H E) (fun cls d _ H => E cls d H) j)
    (pa : PassesOwn (model P w) (A.deeper (envOfC "latest" (L2.defScope (top 10)) s.heap.objs.size f cdv)) (envOfC "latest" (L2.defScope (top 10)) s.heap.objs.size f cdv) (cxOf (L2N.CX P w) P w K mg base ["many", "wishes", "told", "by", "changed", "place"] "latest" (L2.defScope (top 10)) f cdv A outer s H E).xe) :
    PSs (cxOf (L2N.CX P w) P w K mg base ["many", "wishes", "told", "by", "changed", "place"] "latest" (L2.defScope (top 10)) f cdv A outer s H E) (L2.defBody (top 10)) (ss K cv (fun cls d _ H => E cls d H) kp_2 (m_2 c)) :=
  have nd := nd_2
  (qss_cons (zAsg (uC a fs.f1 (aC (oV 0) (aC (oV 1) (aC (po_tmp (kLc [("place", 5)] nd a (iR1 fc.b_range (aC (po_tmp (eV 0)) aN)) (fun s H C cl fp => (gN 5 nd)) (fun s H C cl fp a => qts_nil) (fun s H C cl fp a => px_int))) aN)))) (gTu 3 a.calm (gC (gN 2 nd) (gC (gN 3 nd) (gC (gN 4 nd) qgs_nil)))))
    (qss_one (qs_ret (px_ifE (tIs (oV 4) (po_tmp px_non)) (kTuple fc.b_tuple (aC (oV 2) aN)) px_non))))
theorem nd_3 : (["many", "wishes", "first", "second", "start", "place"] : List Str).Nodup := by decide +kernel
theorem sc_3 : FnScope ["many", "wishes", "first", "second", "start", "place"] ["many", "wishes", "first", "second"] (L2.defScope (top 11)) := ⟨rfl, rfl, rfl, by decide +kernel, rfl, by decide +kernel, by decide +kernel⟩
theorem bd_3 (fc : Facts K mg) (hcv : ∀ k, cv k = .ref (He.ga K (errN k))) (fs : Fns P w K mg base cv j c) {f : Addr} {cdv : Value} {A : Around} {outer : List PySem.Env} {s : Shared} {H : Hp} {E : XK} (a : At (cxOf (L2N.CX P w) P w K mg base ["many", "wishes", "first", "second", "start", "place"] "least_sum" (L2.defScope (top 11)) f cdv A outer s H E) (fun cls d _ H => E cls d H) j)
    (pa : PassesOwn (model P w) (A.deeper (envOfC "least_sum" (L2.defScope (top 11)) s.heap.objs.size f cdv)) (envOfC "least_sum" (L2.defScope (top 11)) s.heap.objs.size f cdv) (cxOf (L2N.CX P w) P w K mg base ["many", "wishes", "first", "second", "start", "place"] "least_sum" (L2.defScope (top 11)) f cdv A outer s H E).xe) :
    PSs (cxOf (L2N.CX P w) P w K mg base ["many", "wishes", "first", "second", "start", "place"] "least_sum" (L2.defScope (top 11)) f cdv A outer s H E) (L2.defBody (top 11)) (ss K cv (fun cls d _ H => E cls d H) kp_3 (m_3 c)) :=
  have nd := nd_3
  (qss_cons (by first | exact zSetLc 4 [("place", 5)] nd a (iR1 fc.b_range (aC (po_tmp (eV 0)) aN)) (fun s H C cl fp => (gN 5 nd)) (fun s H C cl fp a => qts_nil) (fun s H C cl fp a => (px_ifE (tEq a (oV 5) (oV 2)) px_int px_non)) | exact zSet 4 nd (kLc [("place", 5)] nd a (iR1 fc.b_range (aC (po_tmp (eV 0)) aN)) (fun s H C cl fp => (gN 5 nd)) (fun s H C cl fp a => qts_nil) (fun s H C cl fp a => (px_ifE (tEq a (oV 5) (oV 2)) px_int px_non))))
    (qss_one (qs_ret (bIx (po_tmp (bIx (po_tmp (uC a fs.f1 (aC (oV 0) (aC (oV 1) (aC (oV 4) aN))))) (po_tmp px_int))) (oV 3)))))
theorem nd_4 : (["many", "wishes", "first", "second"] : List Str).Nodup := by decide +kernel
theorem sc_4 : FnScope ["many", "wishes", "first", "second"] ["many", "wishes", "first", "second"] (L2.defScope (top 12)) := ⟨rfl, rfl, rfl, by decide +kernel, rfl, by decide +kernel, by decide +kernel⟩
theorem bd_4 (fc : Facts K mg) (hcv : ∀ k, cv k = .ref (He.ga K (errN k))) (fs : Fns P w K mg base cv j c) {f : Addr} {cdv : Value} {A : Around} {outer : List PySem.Env} {s : Shared} {H : Hp} {E : XK} (a : At (cxOf (L2N.CX P w) P w K mg base ["many", "wishes", "first", "second"] "span" (L2.defScope (top 12)) f cdv A outer s H E) (fun cls d _ H => E cls d H) j)
    (pa : PassesOwn (model P w) (A.deeper (envOfC "span" (L2.defScope (top 12)) s.heap.objs.size f cdv)) (envOfC "span" (L2.defScope (top 12)) s.heap.objs.size f cdv) (cxOf (L2N.CX P w) P w K mg base ["many", "wishes", "first", "second"] "span" (L2.defScope (top 12)) f cdv A outer s H E).xe) :
    PSs (cxOf (L2N.CX P w) P w K mg base ["many", "wishes", "first", "second"] "span" (L2.defScope (top 12)) f cdv A outer s H E) (L2.defBody (top 12)) (ss K cv (fun cls d _ H => E cls d H) kp_4 (m_4 c)) :=
  have nd := nd_4
  (qss_cons (qs_if (tIs (po_tmp (uC a fs.f2 (aC (oV 0) (aC (oV 1) aN)))) (po_tmp px_non)) (qss_one (qs_raise a fc.r_Refused (hcv 4))) qss_nil)
    (qss_one (qs_ret (uC a fs.f3 (aC (oV 0) (aC (oV 1) (aC (oV 2) (aC (oV 3) aN))))))))
theorem nd_5 : (["many", "wishes", "number", "others", "i", "j", "b", "told"] : List Str).Nodup := by decide +kernel
theorem sc_5 : FnScope ["many", "wishes", "number", "others", "i", "j", "b", "told"] ["many", "wishes", "number"] (L2.defScope (top 13)) := ⟨rfl, rfl, rfl, by decide +kernel, rfl, by decide +kernel, by decide +kernel⟩
theorem bd_5 (fc : Facts K mg) (hcv : ∀ k, cv k = .ref (He.ga K (errN k))) (fs : Fns P w K mg base cv j c) {f : Addr} {cdv : Value} {A : Around} {outer : List PySem.Env} {s : Shared} {H : Hp} {E : XK} (a : At (cxOf (L2N.CX P w) P w K mg base ["many", "wishes", "number", "others", "i", "j", "b", "told"] "idle" (L2.defScope (top 13)) f cdv A outer s H E) (fun cls d _ H => E cls d H) j)
    (pa : PassesOwn (model P w) (A.deeper (envOfC "idle" (L2.defScope (top 13)) s.heap.objs.size f cdv)) (envOfC "idle" (L2.defScope (top 13)) s.heap.objs.size f cdv) (cxOf (L2N.CX P w) P w K mg base ["many", "wishes", "number", "others", "i", "j", "b", "told"] "idle" (L2.defScope (top 13)) f cdv A outer s H E).xe) :
    PSs (cxOf (L2N.CX P w) P w K mg base ["many", "wishes", "number", "others", "i", "j", "b", "told"] "idle" (L2.defScope (top 13)) f cdv A outer s H E) (L2.defBody (top 13)) (ss K cv (fun cls d _ H => E cls d H) kp_5 (m_5 c)) :=
  have nd := nd_5
  (qss_cons (zSet 3 nd (bAdd (po_tmp (px_sl (oV 1) qo_none (qo_some (eV 2)))) (po_tmp (px_sl (oV 1) (qo_some (bAdd (oV 2) (po_tmp px_int))) qo_none))))
    (qss_cons (qs_if (tIs (po_tmp (uC a fs.f2 (aC (oV 0) (aC (oV 3) aN)))) (po_tmp px_non)) (qss_one (qs_ret px_bl)) qss_nil)
    (qss_cons (zAsg (bIx (oV 1) (oV 2)) (gTu 3 a.calm (gC (gN 4 nd) (gC (gN 5 nd) (gC (gN 6 nd) qgs_nil)))))
    (qss_cons (zSet 7 nd (uC a fs.f3 (aC (oV 0) (aC (oV 3) (aC (oV 4) (aC (oV 5) aN))))))
    (qss_one (qs_ret (px_and (cIsnt (oV 7) (po_tmp px_non)) (px_one (cLe a (oV 7) (oV 6))))))))))
theorem nd_6 : (["script", "cells", "cell"] : List Str).Nodup := by decide +kernel
theorem sc_6 : FnScope ["script", "cells", "cell"] ["script"] (L2.defScope (top 15)) := ⟨rfl, rfl, rfl, by decide +kernel, rfl, by decide +kernel, by decide +kernel⟩
theorem bd_6 (fc : Facts K mg) (hcv : ∀ k, cv k = .ref (He.ga K (errN k))) (fs : Fns P w K mg base cv j c) {f : Addr} {cdv : Value} {A : Around} {outer : List PySem.Env} {s : Shared} {H : Hp} {E : XK} (a : At (cxOf (L2N.CX P w) P w K mg base ["script", "cells", "cell"] "_law_open" (L2.defScope (top 15)) f cdv A outer s H E) (fun cls d _ H => E cls d H) j)
    (pa : PassesOwn (model P w) (A.deeper (envOfC "_law_open" (L2.defScope (top 15)) s.heap.objs.size f cdv)) (envOfC "_law_open" (L2.defScope (top 15)) s.heap.objs.size f cdv) (cxOf (L2N.CX P w) P w K mg base ["script", "cells", "cell"] "_law_open" (L2.defScope (top 15)) f cdv A outer s H E).xe) :
    PSs (cxOf (L2N.CX P w) P w K mg base ["script", "cells", "cell"] "_law_open" (L2.defScope (top 15)) f cdv A outer s H E) (L2.defBody (top 15)) (ss K cv (fun cls d _ H => E cls d H) kp_6 (m_6 c)) :=
  have nd := nd_6
  (qss_cons (by first | exact zSetLc 1 [("cell", 2)] nd a (qi_seq (px_sl (oV 0) qo_none (qo_some px_int))) (fun s H C cl fp => (gN 2 nd)) (fun s H C cl fp a => qts_nil) (fun s H C cl fp a => (kAbs fc.b_abs (aC (po_tmp (kInt fc.b_int (aC (oV 2) aN))) aN))) | exact zSet 1 nd (kLc [("cell", 2)] nd a (qi_seq (px_sl (oV 0) qo_none (qo_some px_int))) (fun s H C cl fp => (gN 2 nd)) (fun s H C cl fp a => qts_nil) (fun s H C cl fp a => (kAbs fc.b_abs (aC (po_tmp (kInt fc.b_int (aC (oV 2) aN))) aN)))))
    (qss_one (qs_ret (px_lstD (aC (po_tmp px_int) (aC (po_tmp px_int) (aC (po_tmp (bAdd (oV 1) (po_tmp (px_lstD (aC (po_tmp px_int) aN))))) aN)))))))
theorem nd_7 : (["cell", "turn", "number"] : List Str).Nodup := by decide +kernel
theorem sc_7 : FnScope ["cell", "turn", "number"] ["cell", "turn"] (L2.defScope (top 16)) := ⟨rfl, rfl, rfl, by decide +kernel, rfl, by decide +kernel, by decide +kernel⟩
theorem bd_7 (fc : Facts K mg) (hcv : ∀ k, cv k = .ref (He.ga K (errN k))) (fs : Fns P w K mg base cv j c) {f : Addr} {cdv : Value} {A : Around} {outer : List PySem.Env} {s : Shared} {H : Hp} {E : XK} (a : At (cxOf (L2N.CX P w) P w K mg base ["cell", "turn", "number"] "_law_mixed" (L2.defScope (top 16)) f cdv A outer s H E) (fun cls d _ H => E cls d H) j)
    (pa : PassesOwn (model P w) (A.deeper (envOfC "_law_mixed" (L2.defScope (top 16)) s.heap.objs.size f cdv)) (envOfC "_law_mixed" (L2.defScope (top 16)) s.heap.objs.size f cdv) (cxOf (L2N.CX P w) P w K mg base ["cell", "turn", "number"] "_law_mixed" (L2.defScope (top 16)) f cdv A outer s H E).xe) :
    PSs (cxOf (L2N.CX P w) P w K mg base ["cell", "turn", "number"] "_law_mixed" (L2.defScope (top 16)) f cdv A outer s H E) (L2.defBody (top 16)) (ss K cv (fun cls d _ H => E cls d H) kp_7 (m_7 c)) :=
  have nd := nd_7
  (qss_cons (zSet 2 nd (bMod (po_tmp (bAdd (po_tmp (bAdd (po_tmp (bMul (po_tmp (bMod (oV 0) (po_tmp (bSub (po_tmp (bPow (po_tmp px_int) (po_tmp px_int))) (po_tmp px_int))))) (po_tmp px_int))) (po_tmp (bMul (oV 1) (po_tmp px_int))))) (po_tmp px_int))) (po_tmp (bPow (po_tmp px_int) (po_tmp px_int)))))
    (qss_cons (zSet 2 nd (bMod (po_tmp (bMul (po_tmp (bXor (oV 2) (po_tmp (bShr (oV 2) (po_tmp px_int))))) (po_tmp px_int))) (po_tmp (bPow (po_tmp px_int) (po_tmp px_int)))))
    (qss_one (qs_ret (bMod (po_tmp (bMul (po_tmp (bXor (oV 2) (po_tmp (bShr (oV 2) (po_tmp px_int))))) (po_tmp px_int))) (po_tmp (bPow (po_tmp px_int) (po_tmp px_int))))))))
theorem nd_8 : (["draws", "size", "turn", "left", "cells", "cell"] : List Str).Nodup := by decide +kernel
theorem sc_8 : FnScope ["draws", "size", "turn", "left", "cells", "cell"] ["draws", "size"] (L2.defScope (top 17)) := ⟨rfl, rfl, rfl, by decide +kernel, rfl, by decide +kernel, by decide +kernel⟩
theorem bd_8 (fc : Facts K mg) (hcv : ∀ k, cv k = .ref (He.ga K (errN k))) (fs : Fns P w K mg base cv j c) {f : Addr} {cdv : Value} {A : Around} {outer : List PySem.Env} {s : Shared} {H : Hp} {E : XK} (a : At (cxOf (L2N.CX P w) P w K mg base ["draws", "size", "turn", "left", "cells", "cell"] "_law_draw" (L2.defScope (top 17)) f cdv A outer s H E) (fun cls d _ H => E cls d H) j)
    (pa : PassesOwn (model P w) (A.deeper (envOfC "_law_draw" (L2.defScope (top 17)) s.heap.objs.size f cdv)) (envOfC "_law_draw" (L2.defScope (top 17)) s.heap.objs.size f cdv) (cxOf (L2N.CX P w) P w K mg base ["draws", "size", "turn", "left", "cells", "cell"] "_law_draw" (L2.defScope (top 17)) f cdv A outer s H E).xe) :
    PSs (cxOf (L2N.CX P w) P w K mg base ["draws", "size", "turn", "left", "cells", "cell"] "_law_draw" (L2.defScope (top 17)) f cdv A outer s H E) (L2.defBody (top 17)) (ss K cv (fun cls d _ H => E cls d H) kp_8 (m_8 c)) :=
  have nd := nd_8
  (qss_cons (zUnpL 0 3 a.calm (gC (gN 2 nd) (gC (gN 3 nd) (gC (gN 4 nd) qgs_nil))))
    (qss_cons (qs_if (tLt a (oV 3) (oV 1)) (qss_cons (zSet 5 nd (bIx (oV 4) (po_tmp (bMod (oV 2) (po_tmp (kLen fc.b_len (aC (oV 4) aN)))))))
    (qss_cons (zSet 3 nd (px_ifE (PW.pt (pw_andS (tLt a (oV 2) (po_tmp (kLen fc.b_len (aC (oV 4) aN)))) (pw_and1 (tGe (oV 5) (po_tmp (bPow (po_tmp px_int) (po_tmp px_int))))))) (eV 5) (uC a fs.f7 (aC (oV 5) (aC (oV 2) aN)))))
    (qss_one (zSet 2 nd (bAdd (oV 2) (po_tmp px_int)))))) qss_nil)
    (qss_cons (zStore 0 (eV 2) px_int)
    (qss_cons (zStore 0 (bFdiv (oV 3) (oV 1)) px_int)
    (qss_one (qs_ret (bMod (oV 3) (oV 1))))))))
theorem nd_9 : (["error", "kinds", "names", "name", "true"] : List Str).Nodup := by decide +kernel
theorem sc_9 : FnScope ["error", "kinds", "names", "name", "true"] ["error"] (L2.defScope (top 18)) := ⟨rfl, rfl, rfl, by decide +kernel, rfl, by decide +kernel, by decide +kernel⟩
theorem bd_9 (fc : Facts K mg) (hcv : ∀ k, cv k = .ref (He.ga K (errN k))) {f : Addr} {cdv : Value} {A : Around} {outer : List PySem.Env} {s : Shared} {H : Hp} {E : XK} {p : Addr × Obj} {k1 : Nat} (hk1 : k1 < 6) (a : AtH (L2H.cxH (L2N.CX P w) P w K mg base ["error", "kinds", "names", "name", "true"] "_law_told" (L2.defScope (top 18)) f cdv A outer s H E p) p (cv k1)) :
    PSs (L2H.cxH (L2N.CX P w) P w K mg base ["error", "kinds", "names", "name", "true"] "_law_told" (L2.defScope (top 18)) f cdv A outer s H E p) (L2.defBody (top 18)) (ss K cv (fun cls d _ H => E cls d H) kp_9 (m_9 p.1 k1)) :=
  have nd := nd_9
  (qss_cons (zSet 1 nd (px_lstD (aC (po_tmp (px_tupD (aC (po_tmp px_str) (aC (po_tmp (kIsEH a (hcv k1) (fc.ec k1 hk1) fc.b_isinstance (fc.cg 1 (by decide)) (fc.ki k1 1 hk1 (by decide)) (oV 0))) aN)))) (aC (po_tmp (px_tupD (aC (po_tmp px_str) (aC (po_tmp (kIsEH a (hcv k1) (fc.ec k1 hk1) fc.b_isinstance (fc.cg 2 (by decide)) (fc.ki k1 2 hk1 (by decide)) (oV 0))) aN)))) (aC (po_tmp (px_tupD (aC (po_tmp px_str) (aC (po_tmp (kIsEH a (hcv k1) (fc.ec k1 hk1) fc.b_isinstance (fc.cg 3 (by decide)) (fc.ki k1 3 hk1 (by decide)) (oV 0))) aN)))) (aC (po_tmp (px_tupD (aC (po_tmp px_str) (aC (po_tmp (kIsEH a (hcv k1) (fc.ec k1 hk1) fc.b_isinstance (fc.cg 4 (by decide)) (fc.ki k1 4 hk1 (by decide)) (oV 0))) aN)))) (aC (po_tmp (px_tupD (aC (po_tmp px_str) (aC (po_tmp (kIsEH a (hcv k1) (fc.ec k1 hk1) fc.b_isinstance (fc.cg 5 (by decide)) (fc.ki k1 5 hk1 (by decide)) (oV 0))) aN)))) aN)))))))
    (qss_cons (by first | exact zSetLcHH 2 1 [("name", 3), ("true", 4)] nd a (qV 1) (fun s H C cl fp a => (gTuH 2 a (gC (gN 3 nd) (gC (gN 4 nd) qgs_nil)))) (fun s H C cl fp a => (qts_one (pt_tru (oV 4) (fun _ _ => rfl)))) (fun s H C cl fp a => (eV 3)) | exact zSet 2 nd (kLcHH 1 [("name", 3), ("true", 4)] nd a (qV 1) (fun s H C cl fp a => (gTuH 2 a (gC (gN 3 nd) (gC (gN 4 nd) qgs_nil)))) (fun s H C cl fp a => (qts_one (pt_tru (oV 4) (fun _ _ => rfl)))) (fun s H C cl fp a => (eV 3))))
    (qss_cons (qs_if (PW.pt (pw_orS (tNeH a (po_tmp (kLen fc.b_len (aC (oV 2) aN))) (po_tmp px_int)) (pw_or1 (pt_notS (tVal (kIsEH a (hcv k1) (fc.ec k1 hk1) fc.b_isinstance (fc.cg 0 (by decide)) (fc.ki k1 0 hk1 (by decide)) (oV 0))))))) (qss_one (qs_ret px_str)) qss_nil)
    (qss_one (qs_ret (bIx (oV 2) (po_tmp px_int)))))))
theorem nd_10 : (["value"] : List Str).Nodup := by decide +kernel
theorem sc_10 : FnScope ["value"] ["value"] (L2.defScope (top 19)) := ⟨rfl, rfl, rfl, by decide +kernel, rfl, by decide +kernel, by decide +kernel⟩
theorem bd_10 (fc : Facts K mg) (hcv : ∀ k, cv k = .ref (He.ga K (errN k))) (fs : Fns P w K mg base cv j c) {f : Addr} {cdv : Value} {A : Around} {outer : List PySem.Env} {s : Shared} {H : Hp} {E : XK} (a : At (cxOf (L2N.CX P w) P w K mg base ["value"] "_law_int" (L2.defScope (top 19)) f cdv A outer s H E) (fun cls d _ H => E cls d H) j)
    (pa : PassesOwn (model P w) (A.deeper (envOfC "_law_int" (L2.defScope (top 19)) s.heap.objs.size f cdv)) (envOfC "_law_int" (L2.defScope (top 19)) s.heap.objs.size f cdv) (cxOf (L2N.CX P w) P w K mg base ["value"] "_law_int" (L2.defScope (top 19)) f cdv A outer s H E).xe) :
    PSs (cxOf (L2N.CX P w) P w K mg base ["value"] "_law_int" (L2.defScope (top 19)) f cdv A outer s H E) (L2.defBody (top 19)) (ss K cv (fun cls d _ H => E cls d H) kp_10 (m_10 c)) :=
  have nd := nd_10
  (qss_one (qs_ret (px_and (kIsi "int" fc.b_isinstance fc.b_int (oV 0)) (px_one (px_not (kIsi "bool" fc.b_isinstance fc.b_bool (oV 0)))))))
theorem nd_11 : (["told", "due"] : List Str).Nodup := by decide +kernel
theorem sc_11 : FnScope ["told", "due"] ["told", "due"] (L2.defScope (top 20)) := ⟨rfl, rfl, rfl, by decide +kernel, rfl, by decide +kernel, by decide +kernel⟩
theorem bd_11 (fc : Facts K mg) (hcv : ∀ k, cv k = .ref (He.ga K (errN k))) (fs : Fns P w K mg base cv j c) {f : Addr} {cdv : Value} {A : Around} {outer : List PySem.Env} {s : Shared} {H : Hp} {E : XK} (a : At (cxOf (L2N.CX P w) P w K mg base ["told", "due"] "_law_same" (L2.defScope (top 20)) f cdv A outer s H E) (fun cls d _ H => E cls d H) j)
    (pa : PassesOwn (model P w) (A.deeper (envOfC "_law_same" (L2.defScope (top 20)) s.heap.objs.size f cdv)) (envOfC "_law_same" (L2.defScope (top 20)) s.heap.objs.size f cdv) (cxOf (L2N.CX P w) P w K mg base ["told", "due"] "_law_same" (L2.defScope (top 20)) f cdv A outer s H E).xe) :
    PSs (cxOf (L2N.CX P w) P w K mg base ["told", "due"] "_law_same" (L2.defScope (top 20)) f cdv A outer s H E) (L2.defBody (top 20)) (ss K cv (fun cls d _ H => E cls d H) kp_11 (m_11 c)) :=
  have nd := nd_11
  (qss_one (qs_ret (px_ifE (pt_tru (oV 1) (fun _ _ => rfl)) (cIs (oV 0) (po_tmp px_bl)) (cIs (oV 0) (po_tmp px_bl)))))
theorem nd_12 : (["draws", "many", "most", "hidden", "kind", "told", "k", "one", "other", "far", "place"] : List Str).Nodup := by decide +kernel
theorem sc_12 : FnScope ["draws", "many", "most", "hidden", "kind", "told", "k", "one", "other", "far", "place"] ["draws", "many", "most"] (L2.defScope (top 21)) := ⟨rfl, rfl, rfl, by decide +kernel, rfl, by decide +kernel, by decide +kernel⟩
theorem bd_12 (fc : Facts K mg) (hcv : ∀ k, cv k = .ref (He.ga K (errN k))) (fs : Fns P w K mg base cv j c) {f : Addr} {cdv : Value} {A : Around} {outer : List PySem.Env} {s : Shared} {H : Hp} {E : XK} (a : At (cxOf (L2N.CX P w) P w K mg base ["draws", "many", "most", "hidden", "kind", "told", "k", "one", "other", "far", "place"] "_law_wishes" (L2.defScope (top 21)) f cdv A outer s H E) (fun cls d _ H => E cls d H) j)
    (pa : PassesOwn (model P w) (A.deeper (envOfC "_law_wishes" (L2.defScope (top 21)) s.heap.objs.size f cdv)) (envOfC "_law_wishes" (L2.defScope (top 21)) s.heap.objs.size f cdv) (cxOf (L2N.CX P w) P w K mg base ["draws", "many", "most", "hidden", "kind", "told", "k", "one", "other", "far", "place"] "_law_wishes" (L2.defScope (top 21)) f cdv A outer s H E).xe) :
    PSs (cxOf (L2N.CX P w) P w K mg base ["draws", "many", "most", "hidden", "kind", "told", "k", "one", "other", "far", "place"] "_law_wishes" (L2.defScope (top 21)) f cdv A outer s H E) (L2.defBody (top 21)) (ss K cv (fun cls d _ H => E cls d H) kp_12 (m_12 c)) :=
  have nd := nd_12
  (qss_cons (by first | exact zSetLc 3 [("place", 10)] nd a (iR1 fc.b_range (aC (po_tmp (eV 1)) aN)) (fun s H C cl fp => (gN 10 nd)) (fun s H C cl fp a => qts_nil) (fun s H C cl fp a => (uC a fs.f8 (aC (oV 0) (aC (po_tmp px_int) aN)))) | exact zSet 3 nd (kLc [("place", 10)] nd a (iR1 fc.b_range (aC (po_tmp (eV 1)) aN)) (fun s H C cl fp => (gN 10 nd)) (fun s H C cl fp a => qts_nil) (fun s H C cl fp a => (uC a fs.f8 (aC (oV 0) (aC (po_tmp px_int) aN))))))
    (qss_cons (zSet 4 nd (uC a fs.f8 (aC (oV 0) (aC (po_tmp px_int) aN))))
    (qss_cons (zSet 5 nd (px_lstD aN))
    (qss_cons (zFor pa a.calm (iR1 fc.b_range (aC (po_tmp (px_ifE (tGt (oV 1) (po_tmp px_int)) (uC a fs.f8 (aC (oV 0) (aC (po_tmp (bAdd (oV 2) (po_tmp px_int))) aN))) px_int)) aN)) (gN 6 nd) (qss_cons (zSet 7 nd (uC a fs.f8 (aC (oV 0) (aC (oV 1) aN))))
    (qss_cons (zSet 8 nd (bMod (po_tmp (kInt fc.b_int (aC (po_tmp (bAdd (po_tmp (bAdd (oV 7) (po_tmp px_int))) (po_tmp (uC a fs.f8 (aC (oV 0) (aC (po_tmp (bSub (oV 1) (po_tmp px_int))) aN)))))) aN))) (oV 1)))
    (qss_cons (zSet 9 nd (bSub (po_tmp (bIx (oV 3) (oV 8))) (po_tmp (bIx (oV 3) (oV 7)))))
    (qss_one (zExpr (kApp 5 (px_tupD (aC (po_tmp (eV 7)) (aC (po_tmp (eV 8)) (aC (po_tmp (bSub (po_tmp (bAdd (oV 9) (po_tmp (uC a fs.f8 (aC (oV 0) (aC (po_tmp (bIx (po_tmp (px_lstD (aC (po_tmp px_int) (aC (po_tmp px_int) (aC (po_tmp px_int) aN))))) (oV 4))) aN)))))) (po_tmp (bIx (po_tmp (px_lstD (aC (po_tmp px_int) (aC (po_tmp px_int) (aC (po_tmp px_int) aN))))) (oV 4))))) aN)))))))))))
    (qss_one (qs_ret (kTuple fc.b_tuple (aC (oV 5) aN))))))))
theorem nd_13 : (["many", "wishes", "first", "told", "turn", "before", "one", "other", "b", "place"] : List Str).Nodup := by decide +kernel
theorem sc_13 : FnScope ["many", "wishes", "first", "told", "turn", "before", "one", "other", "b", "place"] ["many", "wishes", "first"] (L2.defScope (top 22)) := ⟨rfl, rfl, rfl, by decide +kernel, rfl, by decide +kernel, by decide +kernel⟩
theorem bd_13 (fc : Facts K mg) (hcv : ∀ k, cv k = .ref (He.ga K (errN k))) (fs : Fns P w K mg base cv j c) {f : Addr} {cdv : Value} {A : Around} {outer : List PySem.Env} {s : Shared} {H : Hp} {E : XK} (a : At (cxOf (L2N.CX P w) P w K mg base ["many", "wishes", "first", "told", "turn", "before", "one", "other", "b", "place"] "_law_least" (L2.defScope (top 22)) f cdv A outer s H E) (fun cls d _ H => E cls d H) j)
    (pa : PassesOwn (model P w) (A.deeper (envOfC "_law_least" (L2.defScope (top 22)) s.heap.objs.size f cdv)) (envOfC "_law_least" (L2.defScope (top 22)) s.heap.objs.size f cdv) (cxOf (L2N.CX P w) P w K mg base ["many", "wishes", "first", "told", "turn", "before", "one", "other", "b", "place"] "_law_least" (L2.defScope (top 22)) f cdv A outer s H E).xe) :
    PSs (cxOf (L2N.CX P w) P w K mg base ["many", "wishes", "first", "told", "turn", "before", "one", "other", "b", "place"] "_law_least" (L2.defScope (top 22)) f cdv A outer s H E) (L2.defBody (top 22)) (ss K cv (fun cls d _ H => E cls d H) kp_13 (m_13 c)) :=
  have nd := nd_13
  (qss_cons (by first | exact zSetLc 3 [("place", 9)] nd a (iR1 fc.b_range (aC (po_tmp (eV 0)) aN)) (fun s H C cl fp => (gN 9 nd)) (fun s H C cl fp a => qts_nil) (fun s H C cl fp a => (px_ifE (tIn a (oV 9) (oV 2)) px_int px_non)) | exact zSet 3 nd (kLc [("place", 9)] nd a (iR1 fc.b_range (aC (po_tmp (eV 0)) aN)) (fun s H C cl fp => (gN 9 nd)) (fun s H C cl fp a => qts_nil) (fun s H C cl fp a => (px_ifE (tIn a (oV 9) (oV 2)) px_int px_non))))
    (qss_cons (zFor pa a.calm (iR1 fc.b_range (aC (po_tmp (bAdd (oV 0) (po_tmp px_int))) aN)) (gN 4 nd) (qss_cons (zSet 5 nd (kList fc.b_list (aC (oV 3) aN)))
    (qss_cons (zFor pa a.calm (qi_seq (eV 1)) (gTu 3 a.calm (gC (gN 6 nd) (gC (gN 7 nd) (gC (gN 8 nd) qgs_nil)))) (qss_one (qs_if (PW.pt (pw_andS (tIsnt (po_tmp (bIx (oV 3) (oV 6))) (po_tmp px_non)) (pw_and1 (PW.pt (pw_orS (tIs (po_tmp (bIx (oV 3) (oV 7))) (po_tmp px_non)) (pw_or1 (tLt a (po_tmp (bAdd (po_tmp (bIx (oV 3) (oV 6))) (oV 8))) (po_tmp (bIx (oV 3) (oV 7)))))))))) (qss_one (zStore 3 (bAdd (po_tmp (bIx (oV 3) (oV 6))) (oV 8)) (eV 7))) qss_nil)))
    (qss_one (qs_if (tEq a (oV 3) (oV 5)) (qss_one (qs_ret (eM 3))) qss_nil)))))
    (qss_one (qs_ret px_non))))
theorem nd_14 : (["many", "wishes", "first", "second", "error"] : List Str).Nodup := by decide +kernel
theorem sc_14 : FnScope ["many", "wishes", "first", "second", "error"] ["many", "wishes", "first", "second"] (L2.defScope (top 23)) := ⟨rfl, rfl, rfl, by decide +kernel, rfl, by decide +kernel, by decide +kernel⟩
theorem bd_14 (fc : Facts K mg) (hcv : ∀ k, cv k = .ref (He.ga K (errN k))) (fs : Fns P w K mg base cv j c) {f : Addr} {cdv : Value} {A : Around} {outer : List PySem.Env} {s : Shared} {H : Hp} {E : XK} (a : At (cxOf (L2N.CX P w) P w K mg base ["many", "wishes", "first", "second", "error"] "_law_span" (L2.defScope (top 23)) f cdv A outer s H E) (fun cls d _ H => E cls d H) j)
    (pa : PassesOwn (model P w) (A.deeper (envOfC "_law_span" (L2.defScope (top 23)) s.heap.objs.size f cdv)) (envOfC "_law_span" (L2.defScope (top 23)) s.heap.objs.size f cdv) (cxOf (L2N.CX P w) P w K mg base ["many", "wishes", "first", "second", "error"] "_law_span" (L2.defScope (top 23)) f cdv A outer s H E).xe) :
    PSs (cxOf (L2N.CX P w) P w K mg base ["many", "wishes", "first", "second", "error"] "_law_span" (L2.defScope (top 23)) f cdv A outer s H E) (L2.defBody (top 23)) (ss K cv (fun cls d _ H => E cls d H) kp_14 (m_14 c)) :=
  have nd := nd_14
  (qss_one (qs_try (i := 4) (r := rt0) (su := su0) rfl rfl nd rfl rfl ⟨rfl, by decide +kernel, .inl (fc.cg 0 (by decide))⟩ rfl (fun W2 pn2 xe2 tk2 pa2 => (fun (a : At _ W2 j) pa => (qss_one (qs_ret (uC a fs.f4 (aC (oV 0) (aC (oV 1) (aC (oV 2) (aC (oV 3) aN)))))))) (At.tr a tk2) pa2)
      (fun at1 oe k1 pn1 hk1 hz1 hf1 => (kCallX a fs.h9 (rt0_lt k1 hk1) hz1 hf1 (aC (oV 4) aN))) hsv0 (fun k d h => by rw [hcv]; exact fc.xm0 k (rt0_lt k (by rw [h]; rfl)))))
theorem nd_15 : (["script", "draws", "many", "wishes", "fits", "first", "far", "second", "told", "low", "base", "row", "number", "others", "one", "other", "b", "due", "place"] : List Str).Nodup := by decide +kernel
theorem sc_15 : FnScope ["script", "draws", "many", "wishes", "fits", "first", "far", "second", "told", "low", "base", "row", "number", "others", "one", "other", "b", "due", "place"] ["script"] (L2.defScope (top 24)) := ⟨rfl, rfl, rfl, by decide +kernel, rfl, by decide +kernel, by decide +kernel⟩
theorem bd_15 (fc : Facts K mg) (hcv : ∀ k, cv k = .ref (He.ga K (errN k))) (fs : Fns P w K mg base cv j c) {f : Addr} {cdv : Value} {A : Around} {outer : List PySem.Env} {s : Shared} {H : Hp} {E : XK} (a : At (cxOf (L2N.CX P w) P w K mg base ["script", "draws", "many", "wishes", "fits", "first", "far", "second", "told", "low", "base", "row", "number", "others", "one", "other", "b", "due", "place"] "law" (L2.defScope (top 24)) f cdv A outer s H E) (fun cls d _ H => E cls d H) j)
    (pa : PassesOwn (model P w) (A.deeper (envOfC "law" (L2.defScope (top 24)) s.heap.objs.size f cdv)) (envOfC "law" (L2.defScope (top 24)) s.heap.objs.size f cdv) (cxOf (L2N.CX P w) P w K mg base ["script", "draws", "many", "wishes", "fits", "first", "far", "second", "told", "low", "base", "row", "number", "others", "one", "other", "b", "due", "place"] "law" (L2.defScope (top 24)) f cdv A outer s H E).xe) :
    PSs (cxOf (L2N.CX P w) P w K mg base ["script", "draws", "many", "wishes", "fits", "first", "far", "second", "told", "low", "base", "row", "number", "others", "one", "other", "b", "due", "place"] "law" (L2.defScope (top 24)) f cdv A outer s H E) (L2.defBody (top 24)) (ss K cv (fun cls d _ H => E cls d H) kp_15 (m_15 c)) :=
  have nd := nd_15
  (qss_cons (zSet 1 nd (uC a fs.f6 (aC (oV 0) aN)))
    (qss_cons (zSet 2 nd (bAdd (po_tmp px_int) (po_tmp (uC a fs.f8 (aC (oV 1) (aC (po_tmp (bIx (po_tmp (px_lstD (aC (po_tmp px_int) (aC (po_tmp px_int) aN)))) (po_tmp (uC a fs.f8 (aC (oV 1) (aC (po_tmp px_int) aN)))))) aN))))))
    (qss_cons (zSet 3 nd (uC a fs.f12 (aC (oV 1) (aC (oV 2) (aC (po_tmp (bIx (po_tmp (px_lstD (aC (po_tmp px_int) (aC (po_tmp px_int) aN)))) (po_tmp (uC a fs.f8 (aC (oV 1) (aC (po_tmp px_int) aN)))))) aN)))))
    (qss_cons (zSet 4 nd (cIsnt (po_tmp (uC a fs.f13 (aC (oV 2) (aC (oV 3) (aC (po_tmp (kLstRg a fc.b_list fc.b_range (oV 2))) aN))))) (po_tmp px_non)))
    (qss_cons (qs_if (tNe a (po_tmp (cIsnt (po_tmp (uC a fs.f2 (aC (oV 2) (aC (oV 3) aN)))) (po_tmp px_non))) (oV 4)) (qss_one (qs_ret px_bl)) qss_nil)
    (qss_cons (zFor pa a.calm (iR1 fc.b_range (aC (po_tmp (eV 2)) aN)) (gN 5 nd) (qss_cons (zSet 6 nd (uC a fs.f13 (aC (oV 2) (aC (oV 3) (aC (po_tmp (px_lstD (aC (po_tmp (eV 5)) aN))) aN)))))
    (qss_cons (zFor pa a.calm (iR1 fc.b_range (aC (po_tmp (eV 2)) aN)) (gN 7 nd) (qss_cons (zSet 8 nd (uC a fs.f14 (aC (oV 2) (aC (oV 3) (aC (oV 5) (aC (oV 7) aN))))))
    (qss_one (qs_if (pt_notS (pt_tru (oV 4) (fun _ _ => rfl))) (qss_one (qs_if (tNe a (oV 8) (po_tmp px_str)) (qss_one (qs_ret px_bl)) qss_nil)) (qss_one (qs_if (PW.pt (pw_orS (tNe a (oV 8) (po_tmp (bIx (oV 6) (oV 7)))) (pw_or1 (PW.pt (pw_andS (tIsnt (oV 8) (po_tmp px_non)) (pw_and1 (pt_notS (tVal (uC a fs.f10 (aC (oV 8) aN)))))))))) (qss_one (qs_ret px_bl)) qss_nil))))))
    (qss_one (qs_if (pt_tru (oV 4) (fun _ _ => rfl)) (qss_cons (by first | exact zSetLc 9 [("one", 14)] nd a (qi_seq (eV 6)) (fun s H C cl fp => (gN 14 nd)) (fun s H C cl fp a => qts_nil) (fun s H C cl fp a => (px_ifE (tIs (oV 14) (po_tmp px_non)) px_int (eV 14))) | exact zSet 9 nd (kLc [("one", 14)] nd a (qi_seq (eV 6)) (fun s H C cl fp => (gN 14 nd)) (fun s H C cl fp a => qts_nil) (fun s H C cl fp a => (px_ifE (tIs (oV 14) (po_tmp px_non)) px_int (eV 14)))))
    (qss_cons (qs_if (tLt a (po_tmp (kMin a fc.b_min (aC (oV 9) aN))) (po_tmp (px_neg (po_tmp (bPow (po_tmp px_int) (po_tmp px_int)))))) (qss_one (qs_ret px_bl)) qss_nil)
    (qss_cons (zSet 10 nd (uC a fs.f2 (aC (oV 2) (aC (oV 3) aN))))
    (qss_cons (zSet 11 nd (kTuple fc.b_tuple (aC (po_tmp (kLc [("place", 18)] nd a (iR1 fc.b_range (aC (po_tmp (eV 2)) aN)) (fun s H C cl fp => (gN 18 nd)) (fun s H C cl fp a => qts_nil) (fun s H C cl fp a => (px_ifE (tIs (po_tmp (bIx (oV 6) (oV 18))) (po_tmp px_non)) (bAdd (po_tmp (bIx (oV 10) (oV 18))) (po_tmp (bPow (po_tmp px_int) (po_tmp px_int)))) (bIx (oV 6) (oV 18)))))) aN)))
    (qss_one (qs_if (tIsnt (po_tmp (uC a fs.f0 (aC (oV 3) (aC (oV 11) aN)))) (po_tmp px_bl)) (qss_one (qs_ret px_bl)) qss_nil)))))) qss_nil)))))
    (qss_cons (zFor pa a.calm (iR1 fc.b_range (aC (po_tmp (kLen fc.b_len (aC (oV 3) aN))) aN)) (gN 12 nd) (qss_cons (zSet 13 nd (bAdd (po_tmp (px_sl (oV 3) qo_none (qo_some (eV 12)))) (po_tmp (px_sl (oV 3) (qo_some (bAdd (oV 12) (po_tmp px_int))) qo_none))))
    (qss_cons (zAsg (bIx (oV 3) (oV 12)) (gTu 3 a.calm (gC (gN 14 nd) (gC (gN 15 nd) (gC (gN 16 nd) qgs_nil)))))
    (qss_cons (zSet 17 nd px_bl)
    (qss_cons (qs_if (tIsnt (po_tmp (uC a fs.f13 (aC (oV 2) (aC (oV 13) (aC (po_tmp (kLstRg a fc.b_list fc.b_range (oV 2))) aN))))) (po_tmp px_non)) (qss_cons (zSet 6 nd (bIx (po_tmp (uC a fs.f13 (aC (oV 2) (aC (oV 13) (aC (po_tmp (px_lstD (aC (po_tmp (eV 14)) aN))) aN))))) (oV 15)))
    (qss_one (zSet 17 nd (px_and (cIsnt (oV 6) (po_tmp px_non)) (px_one (cLe a (oV 6) (oV 16))))))) qss_nil)
    (qss_one (qs_if (pt_notS (tVal (uC a fs.f11 (aC (po_tmp (uC a fs.f5 (aC (oV 2) (aC (oV 3) (aC (oV 12) aN))))) (aC (oV 17) aN))))) (qss_one (qs_ret px_bl)) qss_nil)))))))
    (qss_one (qs_ret px_bl)))))))))
end
/-! ## all of them -/
def bodyT (c : Nat → FnD) : Nat → FnD
  | 0 => mkF 2 5 kp_0 (m_0 c)
  | 1 => mkF 3 11 kp_1 (m_1 c)
  | 2 => mkF 2 6 kp_2 (m_2 c)
  | 3 => mkF 4 6 kp_3 (m_3 c)
  | 4 => mkF 4 4 kp_4 (m_4 c)
  | 5 => mkF 3 8 kp_5 (m_5 c)
  | 6 => mkF 1 3 kp_6 (m_6 c)
  | 7 => mkF 2 3 kp_7 (m_7 c)
  | 8 => mkF 2 6 kp_8 (m_8 c)
  | 10 => mkF 1 1 kp_10 (m_10 c)
  | 11 => mkF 2 2 kp_11 (m_11 c)
  | 12 => mkF 3 11 kp_12 (m_12 c)
  | 13 => mkF 3 10 kp_13 (m_13 c)
  | 14 => mkF 4 5 kp_14 (m_14 c)
  | 15 => mkF 1 19 kp_15 (m_15 c)
  | _ => fun _ => .bad
def cl : Nat → Nat → FnD
  | 0, _ => fun _ => .bad
  | j + 1, i => bodyT (cl j) i
def fn : List He.DefD := [⟨("are_kept", none), "are_kept", "are_kept", L2.defArgs (top 8), L2.defBody (top 8), L2.defScope (top 8), [], []⟩, ⟨("lowered", none), "lowered", "lowered", L2.defArgs (top 9), L2.defBody (top 9), L2.defScope (top 9), [], []⟩, ⟨("latest", none), "latest", "latest", L2.defArgs (top 10), L2.defBody (top 10), L2.defScope (top 10), [], []⟩, ⟨("least_sum", none), "least_sum", "least_sum", L2.defArgs (top 11), L2.defBody (top 11), L2.defScope (top 11), [], []⟩, ⟨("span", none), "span", "span", L2.defArgs (top 12), L2.defBody (top 12), L2.defScope (top 12), [], []⟩, ⟨("idle", none), "idle", "idle", L2.defArgs (top 13), L2.defBody (top 13), L2.defScope (top 13), [], []⟩, ⟨("_law_open", none), "_law_open", "_law_open", L2.defArgs (top 15), L2.defBody (top 15), L2.defScope (top 15), [], []⟩, ⟨("_law_mixed", none), "_law_mixed", "_law_mixed", L2.defArgs (top 16), L2.defBody (top 16), L2.defScope (top 16), [], []⟩, ⟨("_law_draw", none), "_law_draw", "_law_draw", L2.defArgs (top 17), L2.defBody (top 17), L2.defScope (top 17), [], []⟩, ⟨("_law_told", none), "_law_told", "_law_told", L2.defArgs (top 18), L2.defBody (top 18), L2.defScope (top 18), [], []⟩, ⟨("_law_int", none), "_law_int", "_law_int", L2.defArgs (top 19), L2.defBody (top 19), L2.defScope (top 19), [], []⟩, ⟨("_law_same", none), "_law_same", "_law_same", L2.defArgs (top 20), L2.defBody (top 20), L2.defScope (top 20), [], []⟩, ⟨("_law_wishes", none), "_law_wishes", "_law_wishes", L2.defArgs (top 21), L2.defBody (top 21), L2.defScope (top 21), [], []⟩, ⟨("_law_least", none), "_law_least", "_law_least", L2.defArgs (top 22), L2.defBody (top 22), L2.defScope (top 22), [], []⟩, ⟨("_law_span", none), "_law_span", "_law_span", L2.defArgs (top 23), L2.defBody (top 23), L2.defScope (top 23), [], []⟩, ⟨("law", none), "law", "law", L2.defArgs (top 24), L2.defBody (top 24), L2.defScope (top 24), [], []⟩]
def ex (K : PySem.W.Frag) : Bool := (((List.range 6).all fun k => (excB K (errN k) && (decide (PySem.W.exmOne K (.ref (He.ga K (errN k))) (.ref (He.ga K (errN 0))) = some true) && ((List.range 6).all fun t => kitB2 K (errN k) (errN t) (subE k t))))) && true)
def fa : List He.Fa := [.glo "are_kept", .glo "lowered", .glo "latest", .glo "least_sum", .glo "span", .glo "idle", .glo "_law_open", .glo "_law_mixed", .glo "_law_draw", .glo "_law_told", .glo "_law_int", .glo "_law_same", .glo "_law_wishes", .glo "_law_least", .glo "_law_span", .glo "law", .free "abs", .free "all", .free "bool", .free "enumerate", .free "int", .free "isinstance", .free "len", .free "list", .free "min", .free "range", .free "tuple", .glo "BelowError", .glo "OutOfRange", .glo "Malformed", .glo "NotThere", .glo "Refused", .glo "TooMuch", .exc "Refused"]
def tf : List He.Defn := [("are_kept", none)]
abbrev R : PySem.W.OpenRow := PySem.W.OpenLaw.row PySem.Challenge.rw_staysbelow_k54_spans_and_idle_wishes
abbrev hk : PySem.W.Hook := He.hookX 4 fa fn [] tf ex
def ob (s : PySem.W.SharedT) : He.AlX := He.obsX 4 fa fn [] tf ex (HandSHeadRun.getT s)
theorem ob_eq (s : PySem.W.SharedT) : ob s = hk.obs s.abs := He.obsX_eq (HandSHeadRun.getT_eq s)
def loose : List PySem.Str := [("are_kept" : PySem.Str), ("lowered" : PySem.Str), ("latest" : PySem.Str), ("least_sum" : PySem.Str), ("span" : PySem.Str), ("idle" : PySem.Str), ("_law_open" : PySem.Str), ("_law_mixed" : PySem.Str), ("_law_draw" : PySem.Str), ("_law_told" : PySem.Str), ("_law_int" : PySem.Str), ("_law_same" : PySem.Str), ("_law_wishes" : PySem.Str), ("_law_least" : PySem.Str), ("_law_span" : PySem.Str), ("BelowError" : PySem.Str), ("OutOfRange" : PySem.Str), ("Malformed" : PySem.Str), ("NotThere" : PySem.Str), ("Refused" : PySem.Str), ("TooMuch" : PySem.Str)]
theorem run (w : World) : HandSHeadRun.RunEq R (PySem.W.view R.prog [24]) hk ob 4000 loose w := by
  intro os; kernel_rfl
theorem facts {w : World} {K : PySem.W.Frag} {h : Heap} {mg : Str → Option Value} (X : K.In h) (G : h.Ns mainGlobals mg) (c : He.SaysX fa fn [] tf ex w h K) : Facts K mg where
  b_abs := He.free_ok X G (c.t.d.fact 16 (f := .free "abs") rfl)
  b_all := He.free_ok X G (c.t.d.fact 17 (f := .free "all") rfl)
  b_bool := He.free_ok X G (c.t.d.fact 18 (f := .free "bool") rfl)
  b_enumerate := He.free_ok X G (c.t.d.fact 19 (f := .free "enumerate") rfl)
  b_int := He.free_ok X G (c.t.d.fact 20 (f := .free "int") rfl)
  b_isinstance := He.free_ok X G (c.t.d.fact 21 (f := .free "isinstance") rfl)
  b_len := He.free_ok X G (c.t.d.fact 22 (f := .free "len") rfl)
  b_list := He.free_ok X G (c.t.d.fact 23 (f := .free "list") rfl)
  b_min := He.free_ok X G (c.t.d.fact 24 (f := .free "min") rfl)
  b_range := He.free_ok X G (c.t.d.fact 25 (f := .free "range") rfl)
  b_tuple := He.free_ok X G (c.t.d.fact 26 (f := .free "tuple") rfl)
  r_Refused := raiseC_of (He.glo_ok X G (c.t.d.fact 31 (f := .glo "Refused") rfl)) (c.t.d.fact 33 (f := .exc "Refused") rfl)
  cg := fun k hk => by
    rcases k with _ | _ | _ | _ | _ | _ | k
    · exact He.glo_ok X G (c.t.d.fact 27 (f := .glo "BelowError") rfl)
    · exact He.glo_ok X G (c.t.d.fact 28 (f := .glo "OutOfRange") rfl)
    · exact He.glo_ok X G (c.t.d.fact 29 (f := .glo "Malformed") rfl)
    · exact He.glo_ok X G (c.t.d.fact 30 (f := .glo "NotThere") rfl)
    · exact He.glo_ok X G (c.t.d.fact 31 (f := .glo "Refused") rfl)
    · exact He.glo_ok X G (c.t.d.fact 32 (f := .glo "TooMuch") rfl)
    · omega
  ec := fun k hk => excB_ok (He.ba (List.all_eq_true.mp (He.ba c.more).1 k (List.mem_range.mpr hk))).1
  xm0 := fun k hk => of_decide_eq_true (He.ba (He.ba (List.all_eq_true.mp (He.ba c.more).1 k (List.mem_range.mpr hk))).2).1
  ki := fun k t hk ht => kitB2_ok (List.all_eq_true.mp (He.ba (He.ba (List.all_eq_true.mp (He.ba c.more).1 k (List.mem_range.mpr hk))).2).2 t (List.mem_range.mpr ht))
theorem all {w : World} {K : PySem.W.Frag} {h base : Heap} {mg : Str → Option Value} {P : Program} {cv : Nat → Value} [Tabs] (X : K.In h) (G : h.Ns mainGlobals mg) (c : He.SaysX fa fn [] tf ex w h K) (hT : ∀ p ∈ tf, Tabs.T (He.cT K p).2) (TB : ∀ p ∈ tf, GxR.TabB base mg (He.cT K p).1 (He.cT K p).2) (hcv : ∀ k, cv k = .ref (He.ga K (errN k))) :
    ∀ j, Fns P w K mg base cv j (cl j) := by
  have fc := facts X G c
  obtain ⟨d0, D0⟩ := c.t.d.def_ 0 (d := ⟨("are_kept", none), "are_kept", "are_kept", L2.defArgs (top 8), L2.defBody (top 8), L2.defScope (top 8), [], []⟩) rfl
  have g0 := He.glo_ok X G (c.t.d.fact 0 (f := .glo "are_kept") rfl)
  have b0 : Binds K d0 ["wishes", "value"] [] := FunD.bindsN D0 fun _ _ _ _ _ _ us hl => match us, hl with | [_, _], _ => rfl
  obtain ⟨d1, D1⟩ := c.t.d.def_ 1 (d := ⟨("lowered", none), "lowered", "lowered", L2.defArgs (top 9), L2.defBody (top 9), L2.defScope (top 9), [], []⟩) rfl
  have g1 := He.glo_ok X G (c.t.d.fact 1 (f := .glo "lowered") rfl)
  have b1 : Binds K d1 ["many", "wishes", "told"] [] := FunD.bindsN D1 fun _ _ _ _ _ _ us hl => match us, hl with | [_, _, _], _ => rfl
  obtain ⟨d2, D2⟩ := c.t.d.def_ 2 (d := ⟨("latest", none), "latest", "latest", L2.defArgs (top 10), L2.defBody (top 10), L2.defScope (top 10), [], []⟩) rfl
  have g2 := He.glo_ok X G (c.t.d.fact 2 (f := .glo "latest") rfl)
  have b2 : Binds K d2 ["many", "wishes"] [] := FunD.bindsN D2 fun _ _ _ _ _ _ us hl => match us, hl with | [_, _], _ => rfl
  obtain ⟨d3, D3⟩ := c.t.d.def_ 3 (d := ⟨("least_sum", none), "least_sum", "least_sum", L2.defArgs (top 11), L2.defBody (top 11), L2.defScope (top 11), [], []⟩) rfl
  have g3 := He.glo_ok X G (c.t.d.fact 3 (f := .glo "least_sum") rfl)
  have b3 : Binds K d3 ["many", "wishes", "first", "second"] [] := FunD.bindsN D3 fun _ _ _ _ _ _ us hl => match us, hl with | [_, _, _, _], _ => rfl
  obtain ⟨d4, D4⟩ := c.t.d.def_ 4 (d := ⟨("span", none), "span", "span", L2.defArgs (top 12), L2.defBody (top 12), L2.defScope (top 12), [], []⟩) rfl
  have g4 := He.glo_ok X G (c.t.d.fact 4 (f := .glo "span") rfl)
  have b4 : Binds K d4 ["many", "wishes", "first", "second"] [] := FunD.bindsN D4 fun _ _ _ _ _ _ us hl => match us, hl with | [_, _, _, _], _ => rfl
  obtain ⟨d5, D5⟩ := c.t.d.def_ 5 (d := ⟨("idle", none), "idle", "idle", L2.defArgs (top 13), L2.defBody (top 13), L2.defScope (top 13), [], []⟩) rfl
  have g5 := He.glo_ok X G (c.t.d.fact 5 (f := .glo "idle") rfl)
  have b5 : Binds K d5 ["many", "wishes", "number"] [] := FunD.bindsN D5 fun _ _ _ _ _ _ us hl => match us, hl with | [_, _, _], _ => rfl
  obtain ⟨d6, D6⟩ := c.t.d.def_ 6 (d := ⟨("_law_open", none), "_law_open", "_law_open", L2.defArgs (top 15), L2.defBody (top 15), L2.defScope (top 15), [], []⟩) rfl
  have g6 := He.glo_ok X G (c.t.d.fact 6 (f := .glo "_law_open") rfl)
  have b6 : Binds K d6 ["script"] [] := FunD.bindsN D6 fun _ _ _ _ _ _ us hl => match us, hl with | [_], _ => rfl
  obtain ⟨d7, D7⟩ := c.t.d.def_ 7 (d := ⟨("_law_mixed", none), "_law_mixed", "_law_mixed", L2.defArgs (top 16), L2.defBody (top 16), L2.defScope (top 16), [], []⟩) rfl
  have g7 := He.glo_ok X G (c.t.d.fact 7 (f := .glo "_law_mixed") rfl)
  have b7 : Binds K d7 ["cell", "turn"] [] := FunD.bindsN D7 fun _ _ _ _ _ _ us hl => match us, hl with | [_, _], _ => rfl
  obtain ⟨d8, D8⟩ := c.t.d.def_ 8 (d := ⟨("_law_draw", none), "_law_draw", "_law_draw", L2.defArgs (top 17), L2.defBody (top 17), L2.defScope (top 17), [], []⟩) rfl
  have g8 := He.glo_ok X G (c.t.d.fact 8 (f := .glo "_law_draw") rfl)
  have b8 : Binds K d8 ["draws", "size"] [] := FunD.bindsN D8 fun _ _ _ _ _ _ us hl => match us, hl with | [_, _], _ => rfl
  obtain ⟨d9, D9⟩ := c.t.d.def_ 9 (d := ⟨("_law_told", none), "_law_told", "_law_told", L2.defArgs (top 18), L2.defBody (top 18), L2.defScope (top 18), [], []⟩) rfl
  have g9 := He.glo_ok X G (c.t.d.fact 9 (f := .glo "_law_told") rfl)
  have b9 : Binds K d9 ["error"] [] := FunD.bindsN D9 fun _ _ _ _ _ _ us hl => match us, hl with | [_], _ => rfl
  obtain ⟨d10, D10⟩ := c.t.d.def_ 10 (d := ⟨("_law_int", none), "_law_int", "_law_int", L2.defArgs (top 19), L2.defBody (top 19), L2.defScope (top 19), [], []⟩) rfl
  have g10 := He.glo_ok X G (c.t.d.fact 10 (f := .glo "_law_int") rfl)
  have b10 : Binds K d10 ["value"] [] := FunD.bindsN D10 fun _ _ _ _ _ _ us hl => match us, hl with | [_], _ => rfl
  obtain ⟨d11, D11⟩ := c.t.d.def_ 11 (d := ⟨("_law_same", none), "_law_same", "_law_same", L2.defArgs (top 20), L2.defBody (top 20), L2.defScope (top 20), [], []⟩) rfl
  have g11 := He.glo_ok X G (c.t.d.fact 11 (f := .glo "_law_same") rfl)
  have b11 : Binds K d11 ["told", "due"] [] := FunD.bindsN D11 fun _ _ _ _ _ _ us hl => match us, hl with | [_, _], _ => rfl
  obtain ⟨d12, D12⟩ := c.t.d.def_ 12 (d := ⟨("_law_wishes", none), "_law_wishes", "_law_wishes", L2.defArgs (top 21), L2.defBody (top 21), L2.defScope (top 21), [], []⟩) rfl
  have g12 := He.glo_ok X G (c.t.d.fact 12 (f := .glo "_law_wishes") rfl)
  have b12 : Binds K d12 ["draws", "many", "most"] [] := FunD.bindsN D12 fun _ _ _ _ _ _ us hl => match us, hl with | [_, _, _], _ => rfl
  obtain ⟨d13, D13⟩ := c.t.d.def_ 13 (d := ⟨("_law_least", none), "_law_least", "_law_least", L2.defArgs (top 22), L2.defBody (top 22), L2.defScope (top 22), [], []⟩) rfl
  have g13 := He.glo_ok X G (c.t.d.fact 13 (f := .glo "_law_least") rfl)
  have b13 : Binds K d13 ["many", "wishes", "first"] [] := FunD.bindsN D13 fun _ _ _ _ _ _ us hl => match us, hl with | [_, _, _], _ => rfl
  obtain ⟨d14, D14⟩ := c.t.d.def_ 14 (d := ⟨("_law_span", none), "_law_span", "_law_span", L2.defArgs (top 23), L2.defBody (top 23), L2.defScope (top 23), [], []⟩) rfl
  have g14 := He.glo_ok X G (c.t.d.fact 14 (f := .glo "_law_span") rfl)
  have b14 : Binds K d14 ["many", "wishes", "first", "second"] [] := FunD.bindsN D14 fun _ _ _ _ _ _ us hl => match us, hl with | [_, _, _, _], _ => rfl
  obtain ⟨d15, D15⟩ := c.t.d.def_ 15 (d := ⟨("law", none), "law", "law", L2.defArgs (top 24), L2.defBody (top 24), L2.defScope (top 24), [], []⟩) rfl
  have g15 := He.glo_ok X G (c.t.d.fact 15 (f := .glo "law") rfl)
  have b15 : Binds K d15 ["script"] [] := FunD.bindsN D15 fun _ _ _ _ _ _ us hl => match us, hl with | [_], _ => rfl
  have x9 : FnAtX P w K mg base cv "_law_told" ["error"] (fun k => k < 6) h_9 := ⟨_, d9, fn_okX D9 sc_9 (fun cdv A outer s H E p k hk a => bd_9 fc hcv hk a), g9, D9.kp, b9⟩
  intro j
  induction j with
  | zero =>
    exact ⟨⟨_, d0, fn_bad _, g0, D0.kp, b0, D0.lk⟩, ⟨_, d1, fn_bad _, g1, D1.kp, b1, D1.lk⟩, ⟨_, d2, fn_bad _, g2, D2.kp, b2, D2.lk⟩, ⟨_, d3, fn_bad _, g3, D3.kp, b3, D3.lk⟩, ⟨_, d4, fn_bad _, g4, D4.kp, b4, D4.lk⟩, ⟨_, d5, fn_bad _, g5, D5.kp, b5, D5.lk⟩, ⟨_, d6, fn_bad _, g6, D6.kp, b6, D6.lk⟩, ⟨_, d7, fn_bad _, g7, D7.kp, b7, D7.lk⟩, ⟨_, d8, fn_bad _, g8, D8.kp, b8, D8.lk⟩, ⟨_, d10, fn_bad _, g10, D10.kp, b10, D10.lk⟩, ⟨_, d11, fn_bad _, g11, D11.kp, b11, D11.lk⟩, ⟨_, d12, fn_bad _, g12, D12.kp, b12, D12.lk⟩, ⟨_, d13, fn_bad _, g13, D13.kp, b13, D13.lk⟩, ⟨_, d14, fn_bad _, g14, D14.kp, b14, D14.lk⟩, ⟨_, d15, fn_bad _, g15, D15.kp, b15, D15.lk⟩, x9⟩
  | succ j ih =>
    refine ⟨?_, ?_, ?_, ?_, ?_, ?_, ?_, ?_, ?_, ?_, ?_, ?_, ?_, ?_, ?_, x9⟩
    · refine ⟨_, d0, fn_okD D0 sc_0 (fun cdv A outer s H E hcd hr tk pa => ?_), g0, D0.kp, b0, D0.lk⟩
      obtain ⟨oc, od, dV, kV, doc, pm, an, cdv', ct, osl, e1, lk, hcd', _⟩ := D0.ex
      have e2 : cdv' = cdv := by rw [← hcd, e1]
      subst e2
      obtain ⟨c0, e3⟩ := He.codeIn_ref hcd'
      have e4 : He.codeOf K ("are_kept", none) = c0 := He.codeOf_eq lk (by rw [e1]; exact e3)
      have hT' := hT ("are_kept", none) (by simp [tf])
      have TB' := TB ("are_kept", none) (by simp [tf])
      exact bd_0 fc hcv ih ⟨rfl, tk, hr.mono (Nat.le_succ _)⟩ hr hT' TB' (by rw [e3, ← e4]; rfl) pa
    · exact ⟨_, d1, fn_okD D1 sc_1 (fun cdv A outer s H E _ hr tk pa => bd_1 fc hcv ih ⟨rfl, tk, hr.mono (Nat.le_succ _)⟩ pa), g1, D1.kp, b1, D1.lk⟩
    · exact ⟨_, d2, fn_okD D2 sc_2 (fun cdv A outer s H E _ hr tk pa => bd_2 fc hcv ih ⟨rfl, tk, hr.mono (Nat.le_succ _)⟩ pa), g2, D2.kp, b2, D2.lk⟩
    · exact ⟨_, d3, fn_okD D3 sc_3 (fun cdv A outer s H E _ hr tk pa => bd_3 fc hcv ih ⟨rfl, tk, hr.mono (Nat.le_succ _)⟩ pa), g3, D3.kp, b3, D3.lk⟩
    · exact ⟨_, d4, fn_okD D4 sc_4 (fun cdv A outer s H E _ hr tk pa => bd_4 fc hcv ih ⟨rfl, tk, hr.mono (Nat.le_succ _)⟩ pa), g4, D4.kp, b4, D4.lk⟩
    · exact ⟨_, d5, fn_okD D5 sc_5 (fun cdv A outer s H E _ hr tk pa => bd_5 fc hcv ih ⟨rfl, tk, hr.mono (Nat.le_succ _)⟩ pa), g5, D5.kp, b5, D5.lk⟩
    · exact ⟨_, d6, fn_okD D6 sc_6 (fun cdv A outer s H E _ hr tk pa => bd_6 fc hcv ih ⟨rfl, tk, hr.mono (Nat.le_succ _)⟩ pa), g6, D6.kp, b6, D6.lk⟩
    · exact ⟨_, d7, fn_okD D7 sc_7 (fun cdv A outer s H E _ hr tk pa => bd_7 fc hcv ih ⟨rfl, tk, hr.mono (Nat.le_succ _)⟩ pa), g7, D7.kp, b7, D7.lk⟩
    · exact ⟨_, d8, fn_okD D8 sc_8 (fun cdv A outer s H E _ hr tk pa => bd_8 fc hcv ih ⟨rfl, tk, hr.mono (Nat.le_succ _)⟩ pa), g8, D8.kp, b8, D8.lk⟩
    · exact ⟨_, d10, fn_okD D10 sc_10 (fun cdv A outer s H E _ hr tk pa => bd_10 fc hcv ih ⟨rfl, tk, hr.mono (Nat.le_succ _)⟩ pa), g10, D10.kp, b10, D10.lk⟩
    · exact ⟨_, d11, fn_okD D11 sc_11 (fun cdv A outer s H E _ hr tk pa => bd_11 fc hcv ih ⟨rfl, tk, hr.mono (Nat.le_succ _)⟩ pa), g11, D11.kp, b11, D11.lk⟩
    · exact ⟨_, d12, fn_okD D12 sc_12 (fun cdv A outer s H E _ hr tk pa => bd_12 fc hcv ih ⟨rfl, tk, hr.mono (Nat.le_succ _)⟩ pa), g12, D12.kp, b12, D12.lk⟩
    · exact ⟨_, d13, fn_okD D13 sc_13 (fun cdv A outer s H E _ hr tk pa => bd_13 fc hcv ih ⟨rfl, tk, hr.mono (Nat.le_succ _)⟩ pa), g13, D13.kp, b13, D13.lk⟩
    · exact ⟨_, d14, fn_okD D14 sc_14 (fun cdv A outer s H E _ hr tk pa => bd_14 fc hcv ih ⟨rfl, tk, hr.mono (Nat.le_succ _)⟩ pa), g14, D14.kp, b14, D14.lk⟩
    · exact ⟨_, d15, fn_okD D15 sc_15 (fun cdv A outer s H E _ hr tk pa => bd_15 fc hcv ih ⟨rfl, tk, hr.mono (Nat.le_succ _)⟩ pa), g15, D15.kp, b15, D15.lk⟩
theorem law_done {w : World} {K : PySem.W.Frag} {h : Heap} {mg : Str → Option Value} {fa : Addr} (X : K.In h) (G : h.Ns mainGlobals mg) (hmg : mg "law" = some (.ref fa)) (c : He.SaysX L.fa fn [] tf L.ex w h K)
    (pure : ∀ ns : List Int, ns.length ≤ 63 → (∀ z ∈ ns, Builtin.Int.intBits z ≤ 1048576) → ∃ outs, cl 20 15 [.scr (ns.map D.int)] = .ok (.bl true) outs) : LamX.LawAtS PySem.Challenge.rw_staysbelow_k54_spans_and_idle_wishes w K (L2N.CX PySem.Challenge.rw_staysbelow_k54_spans_and_idle_wishes.prog w) (2 * 20) 63 "script" mg fa h := by
  obtain ⟨d, D⟩ := c.t.d.def_ 15 (d := ⟨("law", none), "law", "law", L2.defArgs (top 24), L2.defBody (top 24), L2.defScope (top 24), [], []⟩) rfl
  have e := hmg.symm.trans (He.glo_ok X G (c.t.d.fact 15 (f := .glo "law") rfl))
  cases e
  have lk := (letI T : Tabs := tabsOf []; D.lk)
  refine law_at (J := 20) (cs := tf.map (He.cT K)) (nm := "law") (cv := fun k => .ref (He.ga K (errN k))) (fd := d) (tabs_map c.empty) (tabs_map c.out) (tabs_map fun p hp => PySem.W.codeHd_of_K X (c.hd p hp))
    (fun s v => FunD.bindsA (ps := ["script"]) D (fun _ _ _ _ _ _ us hl => match us, hl with | [_], _ => rfl) s [v] rfl) lk hmg (fun base hK hG hTB => ?_) pure
  letI T : Tabs := tabsOf (tf.map (He.cT K))
  exact (all (w := w) (base := base) (P := PySem.Challenge.rw_staysbelow_k54_spans_and_idle_wishes.prog) (cv := fun k => .ref (He.ga K (errN k))) X G c (fun p hp => show ∃ q ∈ tf.map (He.cT K), q.2 = (He.cT K p).2 from ⟨_, List.mem_map_of_mem hp, rfl⟩) (fun p hp => hTB _ (List.mem_map_of_mem hp)) (fun _ => rfl) 20).f15
end L
set_option Elab.async false
set_option linter.all false
set_option maxRecDepth 100000
set_option maxHeartbeats 4000000
namespace LM
open PySem PySem.Spec L2 PV
theorem c0 (k : Nat) : L.cl (k + 1) 0 = mkF 2 5 L.kp_0 (L.m_0 (L.cl k)) := rfl
theorem c1 (k : Nat) : L.cl (k + 1) 1 = mkF 3 11 L.kp_1 (L.m_1 (L.cl k)) := rfl
theorem c2 (k : Nat) : L.cl (k + 1) 2 = mkF 2 6 L.kp_2 (L.m_2 (L.cl k)) := rfl
theorem c3 (k : Nat) : L.cl (k + 1) 3 = mkF 4 6 L.kp_3 (L.m_3 (L.cl k)) := rfl
theorem c4 (k : Nat) : L.cl (k + 1) 4 = mkF 4 4 L.kp_4 (L.m_4 (L.cl k)) := rfl
theorem c5 (k : Nat) : L.cl (k + 1) 5 = mkF 3 8 L.kp_5 (L.m_5 (L.cl k)) := rfl
theorem c6 (k : Nat) : L.cl (k + 1) 6 = mkF 1 3 L.kp_6 (L.m_6 (L.cl k)) := rfl
theorem c7 (k : Nat) : L.cl (k + 1) 7 = mkF 2 3 L.kp_7 (L.m_7 (L.cl k)) := rfl
theorem c8 (k : Nat) : L.cl (k + 1) 8 = mkF 2 6 L.kp_8 (L.m_8 (L.cl k)) := rfl
theorem c10 (k : Nat) : L.cl (k + 1) 10 = mkF 1 1 L.kp_10 (L.m_10 (L.cl k)) := rfl
theorem c11 (k : Nat) : L.cl (k + 1) 11 = mkF 2 2 L.kp_11 (L.m_11 (L.cl k)) := rfl
theorem c12 (k : Nat) : L.cl (k + 1) 12 = mkF 3 11 L.kp_12 (L.m_12 (L.cl k)) := rfl
theorem c13 (k : Nat) : L.cl (k + 1) 13 = mkF 3 10 L.kp_13 (L.m_13 (L.cl k)) := rfl
theorem c14 (k : Nat) : L.cl (k + 1) 14 = mkF 4 5 L.kp_14 (L.m_14 (L.cl k)) := rfl
theorem c15 (k : Nat) : L.cl (k + 1) 15 = mkF 1 19 L.kp_15 (L.m_15 (L.cl k)) := rfl
theorem p261 : powOk 2 61 = true := by decide +kernel
theorem p1018 : powOk 10 18 = true := by decide +kernel
theorem v261 : (2 : Int) ^ (61 : Int).toNat = 2305843009213693952 := by decide +kernel
theorem v1018 : (10 : Int) ^ (18 : Int).toNat = 1000000000000000000 := by decide +kernel
theorem mulBig {i j : Int} (h : j.natAbs < 2 ^ 63) : mulOk i j = true := by
  unfold mulOk
  have : Builtin.Int.intBits j ≤ shortFactorBits := by
    unfold Builtin.Int.intBits shortFactorBits
    split
    · omega
    · rename_i q
      have : j.natAbs.log2 < 63 := (Nat.log2_lt (by simp at q; omega)).mpr h
      omega
  have h2 : decide (Builtin.Int.intBits j > shortFactorBits) = false := decide_eq_false (by omega)
  rw [h2]; simp
theorem e__law_mixed (k : Nat) (a b : Int) : ∃ z, L.cl (k + 1) 7 [.int a, .int b] = .ok (.int z) [some (.int a), some (.int b)] := by
  have m1 : ∀ i : Int, mulOk i 6364136223846793005 = true := fun i => mulBig (by decide)
  have m2 : ∀ i : Int, mulOk i 1442695040888963407 = true := fun i => mulBig (by decide)
  have m3 : ∀ i : Int, mulOk i 3935559000370003845 = true := fun i => mulBig (by decide)
  have m4 : ∀ i : Int, mulOk i 2862933555777941757 = true := fun i => mulBig (by decide)
  simp? only [c7, L.m_7, L.kp_7, fPow, p261, v261, fXor, fShr, m1, m2, m3, m4, Int.reduceSub]
  exact ⟨_, rfl⟩
/-- the state of the draws -/
def DR (o : Bool) (t l : Int) (cs : List Int) : D := .lst true [.int t, .int l, .lst o (cs.map .int)]
def IsDr (d : D) : Prop := ∃ o t l cs, cs ≠ [] ∧ d = DR o t l cs
theorem e__law_open (k : Nat) (ns : List Int) : ∃ d, IsDr d ∧ L.cl (k + 1) 6 [.scr (ns.map D.int)] = .ok d [some (.scr (ns.map D.int))] := by
  have sl : cutD (ns.map D.int) none (some 63) = (ns.take 63).map D.int := by rw [cutTo (by decide)]; simp
  have h : sLc (iOf (sSl (oVar 0) sNoP (sSomP (sC (D.int 63)))) isSeq) (tgName 2) sYes (sApp (sCons (oTmp (sApp (sCons (oVar 2) sNil) fInt)) sNil) (fI1 fun i => D.int (if i < 0 then -i else i))) [2] [some (.scr (ns.map D.int)), none, none] = .ok (.lst true ((ns.take 63).map fun i => D.int (if i < 0 then -i else i))) [some (.scr (ns.map D.int)), none, none] := by
    rw [wLcM (xs := ns.take 63) (G := D.int) (fun i => .int (if i < 0 then -i else i)) (e1 := [some (.scr (ns.map D.int)), none, none]) (by simp? only [sl]) (fun x hx => by simp? only [mkF]) (by rw [size_eq]; simp; omega)]
    simp? only [mkF]
  have e : (ns.take 63).map (fun i => D.int (if i < 0 then -i else i)) = ((ns.take 63).map fun i => if i < 0 then -i else i).map D.int := by rw [List.map_map]; rfl
  rw [e] at h
  generalize hX : (ns.take 63).map (fun i => if i < 0 then -i else i) = X at h
  have hl : X.length ≤ 63 := by rw [← hX]; simp; omega
  have cat : ((X.map D.int).length + 1 ≤ sizeLine) = True := eq_true (by rw [size_eq]; simp; omega)
  refine ⟨DR true 0 0 (X ++ [0]), ⟨true, 0, 0, X ++ [0], by simp, rfl⟩, ?_⟩
  simp? only [c6, L.m_6, L.kp_6, mkF, sSeq, sSet, h, fCatT, fCatL, cat, DR, List.map_append]
theorem t_draw (k : Nat) {d : D} (hd : IsDr d) {s : Int} (h0 : 0 < s) (h1 : s < 1048576) : ∃ v d', 0 ≤ v ∧ v < s ∧ IsDr d' ∧ L.cl (k + 2) 8 [d, .int s] = .ok (.int v) [some d', some (.int s)] := by
  obtain ⟨o, t, l, cs, hc, rfl⟩ := hd
  have g0 : (s = 0) = False := eq_false (by omega)
  have gd : ∀ x, divOk x s = true := fun x => divSmall (by omega) (by omega)
  have hn : ((cs.length : Nat) : Int) ≠ 0 := by have := List.length_pos_iff.mpr hc; omega
  have hn' : (((cs.length : Nat) : Int) = 0) = False := eq_false hn
  have hx : ∃ c, atI (cs.map D.int) (t.fmod ((cs.length : Nat) : Int)) = some (.int c) := by
    have b0 := Int.fmod_nonneg_of_pos t (show (0 : Int) < ((cs.length : Nat) : Int) by omega)
    have b1 := Int.fmod_lt_of_pos t (show (0 : Int) < ((cs.length : Nat) : Int) by omega)
    obtain ⟨m, hm⟩ := Int.eq_ofNat_of_zero_le b0
    rw [hm] at b1 ⊢
    have : m < (cs.map D.int).length := by simp; omega
    refine ⟨cs[m]'(by simpa using this), ?_⟩
    rw [atI_nat this]
    simp
  obtain ⟨c, hx⟩ := hx
  obtain ⟨z, e1⟩ := e__law_mixed k c t
  have fz : (D.lst o (cs.map D.int)).fz = .lst false (cs.map D.int) := by simp [D.fz, fzs_ints]
  have vb : ∀ x : Int, 0 ≤ x.fmod s ∧ x.fmod s < s := fun x => ⟨Int.fmod_nonneg_of_pos x h0, Int.fmod_lt_of_pos x h0⟩
  have key : ∀ t' l' : Int, IsDr (.lst true [.int t', .int l', .lst false (cs.map .int)]) := fun t' l' => ⟨false, t', l', cs, hc, rfl⟩
  have i30 : ixN 3 0 = some 0 := by decide
  have i31 : ixN 3 1 = some 1 := by decide
  by_cases c1 : l < s
  · by_cases c2 : t < ((cs.length : Nat) : Int) ∧ (1000000000000000000 : Int) ≤ c
    · refine ⟨_, _, (vb c).1, (vb c).2, key (t + 1) (c.fdiv s), ?_⟩
      have g1 : (t < ((cs.length : Nat) : Int)) = True := eq_true c2.1
      have g2 : ((1000000000000000000 : Int) ≤ c) = True := eq_true c2.2
      dsimp? only [c8, L.m_8, L.kp_8, DR, sUnpL, sUnpL0, frzI, fz, fIx, hx, List.length_map, hn', ge_iff_le, fPow, p1018, v1018, g0, gd, i30, i31, eq_true c1, g1, g2]
    · refine ⟨_, _, (vb z).1, (vb z).2, key (t + 1) (z.fdiv s), ?_⟩
      by_cases c3 : t < ((cs.length : Nat) : Int)
      · have g2 : ((1000000000000000000 : Int) ≤ c) = False := eq_false fun q => c2 ⟨c3, q⟩
        dsimp? only [c8, L.m_8, L.kp_8, DR, sUnpL, sUnpL0, frzI, fz, fIx, hx, List.length_map, hn', ge_iff_le, fPow, p1018, v1018, g0, gd, i30, i31, eq_true c1, eq_true c3, g2, e1]
      · dsimp? only [c8, L.m_8, L.kp_8, DR, sUnpL, sUnpL0, frzI, fz, fIx, hx, List.length_map, hn', ge_iff_le, fPow, p1018, v1018, g0, gd, i30, i31, eq_true c1, eq_false c3, e1]
  · refine ⟨_, _, (vb l).1, (vb l).2, key t (l.fdiv s), ?_⟩
    dsimp? only [c8, L.m_8, L.kp_8, DR, sUnpL, sUnpL0, frzI, fz, fIx, hx, List.length_map, hn', ge_iff_le, fPow, p1018, v1018, g0, gd, i30, i31, eq_false c1]
end LM
set_option Elab.async false
set_option linter.all false
set_option maxRecDepth 100000
set_option maxHeartbeats 4000000
namespace LM
open PySem PySem.Spec L2 PV BF
def OD : Option Int → D
  | none => .non
  | some x => .int x
def TL (t : Tl) : D := .lst true (t.map OD)
def WD (w : Wi) : D := .tup [.int w.1, .int w.2.1, .int w.2.2]
def WT (W : List Wi) : D := .tup (W.map WD)
theorem OD_fz (o : Option Int) : (OD o).isFz = true := by cases o <;> rfl
theorem OD_f (o : Option Int) : (OD o).fz = OD o := by cases o <;> rfl
theorem ODs_fz (t : Tl) : isFzs (t.map OD) = true := by
  rw [isFzs_all]; simp [OD_fz]
theorem ODs_f (t : Tl) : fzs (t.map OD) = t.map OD := by
  induction t with
  | nil => rfl
  | cons a t ih => simp [fzs, OD_f, ih]
theorem at_OD {t : Tl} {i : Nat} (h : i < t.length) : atI (t.map OD) (i : Int) = some (OD (at_ t i)) := by
  rw [atI_nat (by simpa using h)]
  unfold at_
  simp [List.getD_eq_getElem?_getD, h]
theorem set_OD {t : Tl} {i : Nat} {x : Int} : (t.map OD).set i (.int x) = (t.set i (some x)).map OD := by
  rw [List.map_set]; rfl
def tL : GT := tgTup 3 (tgCons (tgName 6) (tgCons (tgName 7) (tgCons (tgName 8) tgNil)))
def iL : SS := sIf (sAnd (sB (sTwo (oTmp (sTwo (oVar 3) (oVar 6) fIx)) (oTmp (sC .non)) fIsnt)) (sOr (sB (sTwo (oTmp (sTwo (oVar 3) (oVar 7) fIx)) (oTmp (sC .non)) fIs)) (sB (sTwo (oTmp (sTwo (oTmp (sTwo (oVar 3) (oVar 6) fIx)) (oVar 8) fAdd)) (oTmp (sTwo (oVar 3) (oVar 7) fIx)) fLt)))) (sStore 3 (sVar 7) (sTwo (oTmp (sTwo (oVar 3) (oVar 6) fIx)) (oVar 8) fAdd)) sSkip
theorem WDs_fz (W : List Wi) : isFzs (W.map WD) = true := by
  rw [isFzs_all]; simp [WD, D.isFz, isFzs]
theorem WDs_f (W : List Wi) : fzs (W.map WD) = W.map WD := by
  induction W with
  | nil => rfl
  | cons a t ih => simp [fzs, WD, D.fz, ih]
/-- the inner round of _law_least -/
theorem round_least {W : List Wi} {t : Tl} (hW : ∀ w ∈ W, w.1 < t.length ∧ w.2.1 < t.length) {x0 x1 x2 x4 x5 x6 x7 x8 x9 : Option D} {z : RS}
    (hz : loop tL iL
      (W.map WD) [x0, x1, x2, some (TL t), x4, x5, x6, x7, x8, x9] = z) : ∃ x6 x7 x8, z = .nx [x0, x1, x2, some (TL (ps W t)), x4, x5, x6, x7, x8, x9] := by
  obtain ⟨e', rfl, y6, y7, y8, rfl⟩ := wforM hz (fun dn ds e => ∃ y6 y7 y8, e = [x0, x1, x2, some (TL (dn.foldl rlx t)), x4, x5, y6, y7, y8, x9]) ⟨_, _, _, rfl⟩ (by
    rintro dn w ds e hd ⟨y6, y7, y8, rfl⟩
    have hw : w ∈ W := by rw [← hd]; simp
    obtain ⟨h1, h2⟩ := hW w hw
    rw [List.foldl_append, List.foldl_cons, List.foldl_nil]
    generalize ht : dn.foldl rlx t = u
    have hl : u.length = t.length := by rw [← ht]; exact ps_len dn t
    rw [← hl] at h1 h2
    have a1 := at_OD h1
    have a2 := at_OD h2
    have a3 := ixN_nat h2
    unfold BF.rlx BF.low
    cases q1 : at_ u w.1 with
    | none =>
      rw [q1] at a1
      dsimp? only [tL, iL, WD, TL, fIx, a1, OD, List.length_map, ODs_fz]
      exact ⟨_, _, _, rfl⟩
    | some x =>
      rw [q1] at a1
      cases q2 : at_ u w.2.1 with
      | none =>
        rw [q2] at a2
        dsimp? only [tL, iL, WD, TL, fIx, a1, a2, a3, OD, List.length_map, ODs_fz, set_OD]
        exact ⟨_, _, _, rfl⟩
      | some y =>
        rw [q2] at a2
        by_cases hlt : x + w.2.2 < y
        · dsimp? only [tL, iL, WD, TL, fIx, a1, a2, a3, OD, List.length_map, ODs_fz, set_OD, eq_true hlt]
          exact ⟨_, _, _, rfl⟩
        · dsimp? only [tL, iL, WD, TL, fIx, a1, a2, a3, OD, List.length_map, ODs_fz, set_OD, eq_false hlt]
          exact ⟨_, _, _, rfl⟩)
  exact ⟨_, _, _, rfl⟩
end LM
set_option Elab.async false
set_option linter.all false
set_option maxRecDepth 100000
set_option maxHeartbeats 4000000
namespace LM
open PySem PySem.Spec L2 PV BF
theorem lay_OD {o : Option Int} {n : Nat} : (OD o).lay n := by cases o; exact lay_non; exact lay_int
theorem eqv_OD (a b : Option Int) : PyData.eqv (OD a).py (OD b).py = decide (a = b) := by
  cases a <;> cases b <;> simp [OD, D.py, PyData.eqv]
  rfl
theorem eqv_ODs : ∀ (t u : Tl), PyData.eqvAll (pys (t.map OD)) (pys (u.map OD)) = decide (t = u)
  | [], [] => by simp [pys, PyData.eqvAll]
  | [], _ :: _ => by simp [pys, PyData.eqvAll]
  | _ :: _, [] => by simp [pys, PyData.eqvAll]
  | a :: t, b :: u => by
    simp only [List.map_cons, pys, PyData.eqvAll, eqv_OD, eqv_ODs t u, List.cons.injEq]
    by_cases h : a = b <;> by_cases h2 : t = u <;> simp [h, h2]
theorem fEq_TL {o o' : Bool} {t u : Tl} : fEq (.lst o (t.map OD)) (.lst o' (u.map OD)) = some (.bl (decide (t = u))) := by
  unfold fEq
  rw [okEq_of (lay_lst (n := 0) (by intro d hd; obtain ⟨x, _, rfl⟩ := List.mem_map.mp hd; exact lay_OD)), okEq_of (lay_lst (n := 0) (by intro d hd; obtain ⟨x, _, rfl⟩ := List.mem_map.mp hd; exact lay_OD))]
  simp [D.py, PyData.eqv, eqv_ODs]
/-- rounds until one changes nothing -/
def lst (W : List Wi) : Nat → Tl → Option Tl
  | 0, _ => none
  | m + 1, t => if ps W t = t then some t else lst W m (ps W t)
theorem lst_some {W : List Wi} : ∀ {m : Nat} {t u : Tl}, lst W m t = some u → ps W u = u ∧ u = pk W m t
  | m + 1, t, u, h => by
    simp only [lst] at h
    split at h
    · rename_i q
      cases h
      refine ⟨q, ?_⟩
      have : ∀ k, pk W k t = t := fun k => by
        induction k with
        | zero => rfl
        | succ k ih => rw [pk, q, ih]
      rw [this]
    · exact lst_some (m := m) h
theorem lst_none {W : List Wi} : ∀ {m : Nat} {t : Tl}, lst W (m + 1) t = none → ps W (pk W m t) ≠ pk W m t
  | 0, t, h => by
    simp only [lst] at h
    split at h
    · cases h
    · assumption
  | m + 1, t, h => by
    rw [lst] at h
    split at h
    · cases h
    · exact lst_none (m := m) h
def cL : SS := sIf (sB (sTwo (oVar 3) (oVar 5) fEq)) (sRet (sMove 3)) sSkip
def oL : SS := sSeq (sSet 5 (sApp (sCons (oVar 3) sNil) fLst)) (sSeq (sFor (iOf (sVar 1) isSeq) tL iL) cL)
theorem loop_least {W : List Wi} {x1 : D} (hx : x1 = WT W) {x0 x2 x9 : Option D} : ∀ (ds : List D) (t : Tl) (x4 x5 x6 x7 x8 : Option D), (∀ w ∈ W, w.1 < t.length ∧ w.2.1 < t.length) → t.length ≤ 1000 → ∃ y4 y5 y6 y7 y8 z,
    loop (tgName 4) oL ds [x0, some x1, x2, some (TL t), x4, x5, x6, x7, x8, x9] =
    match lst W ds.length t with
    | some u => .rt (TL u) [x0, some x1, x2, none, y4, y5, y6, y7, y8, x9]
    | none => .nx [x0, some x1, x2, some z, y4, y5, y6, y7, y8, x9]
  | [], t, x4, x5, x6, x7, x8, hW, hl => ⟨_, _, _, _, _, _, rfl⟩
  | d :: ds, t, x4, x5, x6, x7, x8, hW, hl => by
    subst hx
    have hl' : (t.length ≤ sizeLine) = True := eq_true (by rw [size_eq]; omega)
    have h1 : oL [x0, some (WT W), x2, some (TL t), some d, x5, x6, x7, x8, x9] = (loop tL iL (W.map WD) [x0, some (WT W), x2, some (TL t), some d, some (TL t), x6, x7, x8, x9]).thn cL := by
      dsimp? only [oL, TL, WT, ODs_fz, ODs_f, WDs_f, List.length_map, hl']
    generalize hz : loop tL iL (W.map WD) [x0, some (WT W), x2, some (TL t), some d, some (TL t), x6, x7, x8, x9] = z at h1
    obtain ⟨y6, y7, y8, rfl⟩ := round_least hW hz
    have h2 : cL [x0, some (WT W), x2, some (TL (ps W t)), some d, some (TL t), y6, y7, y8, x9] = if ps W t = t then .rt (TL (ps W t)) [x0, some (WT W), x2, none, some d, some (TL t), y6, y7, y8, x9] else .nx [x0, some (WT W), x2, some (TL (ps W t)), some d, some (TL t), y6, y7, y8, x9] := by
      dsimp? only [cL, TL, fEq_TL]
    simp only [loop, tgName, List.length_cons, List.length_nil, Nat.reduceAdd, Nat.reduceLT, if_true, List.set_cons_succ, List.set_cons_zero, h1, RS.thn, h2, lst]
    by_cases q : ps W t = t
    · simp only [q, if_true]
      exact ⟨_, _, _, _, _, .non, rfl⟩
    · simp only [q, if_false]
      exact loop_least rfl ds (ps W t) _ _ _ _ _ (by rw [ps_len]; exact hW) (by rw [ps_len]; exact hl)
end LM
set_option Elab.async false
set_option linter.all false
set_option maxRecDepth 100000
set_option maxHeartbeats 4000000
namespace LM
open PySem PySem.Spec L2 PV BF
theorem fIn_ints (i : Int) (o : Bool) (fs : List Int) : fIn (.int i) (.lst o (fs.map .int)) = some (.bl (fs.any fun z => z == i)) := by
  have h1 : okEq (.int i) = true := okEq_of (lay_int (n := 0))
  have h2 : SeqAt.shaped (.list (pys (fs.map D.int))) = true := okEq_of (d := .lst o (fs.map D.int)) (lay_lst (n := 0) lay_ints)
  have h3 : ((pys (fs.map D.int)).any fun z => PyData.eqv z (D.int i).py) = fs.any fun z => z == i := by
    induction fs with
    | nil => rfl
    | cons a fs ih =>
      simp only [List.map_cons, pys, List.any_cons, D.py, PyData.eqv] at ih ⊢
      rw [ih (okEq_of (d := .lst o (fs.map D.int)) (lay_lst (n := 0) lay_ints))]
      try rfl
  simp only [fIn, fOr, fInT, fInL, h1, h2, h3, Option.orElse_none, Option.orElse_some, Bool.and_self, if_true, Bool.false_eq_true, if_false]
  try rfl
def tl0 (n : Nat) (fs : List Int) : Tl := (List.range n).map fun (p : Nat) => if (fs.any fun z => z == (p : Int)) = true then some 0 else none
theorem tl0_len (n : Nat) (fs : List Int) : (tl0 n fs).length = n := by simp [tl0]
def lstD (W : List Wi) (m : Nat) (t : Tl) : D := match lst W m t with
  | some u => TL u
  | none => .non
theorem e__law_least (k n : Nat) (hn : n ≤ 900) {W : List Wi} (hW : ∀ w ∈ W, w.1 < n ∧ w.2.1 < n) (o : Bool) (fs : List Int) :
    L.cl (k + 1) 13 [.int n, WT W, .lst o (fs.map .int)] = .ok (lstD W (n + 1) (tl0 n fs)) [some (.int n), some (WT W), some (.lst o (fs.map .int))] := by
  have m : L.m_13 (L.cl k) = sSeq (sSet 3 (sLc (aTmps (sCons (oTmp (sVar 0)) sNil) fRg1) (tgName 9) sYes (sIfE (sB (sTwo (oVar 9) (oVar 2) fIn)) (sC (.int 0)) (sC .non)) [9]))
    (sSeq (sFor (aTmps (sCons (oTmp (sTwo (oVar 0) (oTmp (sC (.int 1))) fAdd)) sNil) fRg1) (tgName 4) oL) (sRet (sC .non))) := rfl
  have hr : fRg1 [.int (n : Int)] = some ((List.range n).map fun p : Nat => D.int (p : Int)) := by rw [fRg1_nat (by omega)]; simp [rngD]
  have hr2 : fRg1 [.int ((n : Int) + 1)] = some (rngD 0 (n + 1)) := by rw [show (n : Int) + 1 = ((n + 1 : Nat) : Int) by omega, fRg1_nat (by omega)]
  have h : ∀ e1, e1 = [some (.int (n : Int)), some (WT W), some (.lst o (fs.map .int)), none, none, none, none, none, none, none] → sLc (aTmps (sCons (oTmp (sVar 0)) sNil) fRg1) (tgName 9) sYes (sIfE (sB (sTwo (oVar 9) (oVar 2) fIn)) (sC (.int 0)) (sC .non)) [9] e1 = .ok (TL (tl0 n fs)) e1 := by
    intro e1 he
    subst he
    rw [wLcM (xs := List.range n) (G := fun p : Nat => D.int (p : Int)) (fun p => OD (if (fs.any fun z => z == (p : Int)) = true then some 0 else none)) (e1 := [some (.int (n : Int)), some (WT W), some (.lst o (fs.map .int)), none, none, none, none, none, none, none]) (by simp? only [hr]) (fun p hp => by
      simp? only [fIn_ints]
      cases fs.any fun z => z == (p : Int) <;> simp [OD, R.wp, wipeE]) (by rw [size_eq]; simp; omega)]
    simp? only [TL, tl0, List.map_map]
    rfl
  have hz := loop_least (x1 := WT W) rfl (x0 := some (.int (n : Int))) (x2 := some (.lst o (fs.map .int))) (x9 := none) (rngD 0 (n + 1)) (tl0 n fs) none none none none none (by rw [tl0_len]; exact hW) (by rw [tl0_len]; omega)
  obtain ⟨y4, y5, y6, y7, y8, z, hz⟩ := hz
  rw [rngLen] at hz
  simp? only [c13, m, L.kp_13, mkF, sSeq, sSet, h _ rfl, hr2, hz, lstD]
  cases lst W (n + 1) (tl0 n fs) with
  | none => simp? only [L.kp_13]
  | some u => simp? only [L.kp_13]
end LM
set_option Elab.async false
set_option linter.all false
set_option maxRecDepth 100000
set_option maxHeartbeats 4000000
namespace LM
open PySem PySem.Spec L2 PV BF
def BD : Option Nat → D
  | none => .non
  | some x => .int (x : Int)
theorem BD_fz (o : Option Nat) : (BD o).isFz = true := by cases o <;> rfl
theorem BD_f (o : Option Nat) : (BD o).fz = BD o := by cases o <;> rfl
theorem BDs_fz (t : List (Option Nat)) : isFzs (t.map BD) = true := by
  rw [isFzs_all]; simp [BD_fz]
theorem BDs_f (t : List (Option Nat)) : fzs (t.map BD) = t.map BD := by
  induction t with
  | nil => rfl
  | cons a t ih => simp [fzs, BD_f, ih]
theorem set_BD {t : List (Option Nat)} {i : Nat} {x : Nat} : (t.map BD).set i (.int (x : Int)) = (t.set i (some x)).map BD := by
  rw [List.map_set]; rfl
/-- lowered's state: told, by, changed -/
abbrev LS := Tl × List (Option Nat) × Option Nat
def lb (s : LS) (kw : Nat × Wi) : LS := match BF.low s.1 kw.2 with
  | none => s
  | some z => (s.1.set kw.2.2.1 (some z), s.2.1.set kw.2.2.1 (some kw.1), some kw.2.2.1)
def enW (W : List Wi) : List (Nat × Wi) := (List.range W.length).zipWith (fun k w => (k, w)) W
def ED (kw : Nat × Wi) : D := .tup [.int (kw.1 : Int), WD kw.2]
theorem enW_D (W : List Wi) : enumD (W.map WD) = (enW W).map ED := by
  unfold enumD enW
  rw [List.map_zipWith, List.length_map, List.zipWith_map_right]
  rfl
theorem enW_mem {W : List Wi} {x : Nat × Wi} (h : x ∈ enW W) : x.2 ∈ W := by
  unfold enW at h
  obtain ⟨i, hi, rfl⟩ := List.getElem_of_mem h
  rw [List.getElem_zipWith]
  exact List.getElem_mem _
def tE : GT := tgTup 2 (tgCons (tgName 6) (tgCons (tgTup 3 (tgCons (tgName 7) (tgCons (tgName 8) (tgCons (tgName 9) tgNil)))) tgNil))
def iE : SS := sIf (sAnd (sB (sTwo (oTmp (sTwo (oVar 2) (oVar 7) fIx)) (oTmp (sC .non)) fIsnt)) (sOr (sB (sTwo (oTmp (sTwo (oVar 2) (oVar 8) fIx)) (oTmp (sC .non)) fIs)) (sB (sTwo (oTmp (sTwo (oTmp (sTwo (oVar 2) (oVar 7) fIx)) (oVar 9) fAdd)) (oTmp (sTwo (oVar 2) (oVar 8) fIx)) fLt)))) (sSeq (sStore 2 (sVar 8) (sTwo (oTmp (sTwo (oVar 2) (oVar 7) fIx)) (oVar 9) fAdd))
    (sSeq (sStore 3 (sVar 8) (sVar 6))
    (sSet 5 (sVar 8)))) sSkip
def SL (x0 x1 x4 x6 x7 x8 x9 x10 : Option D) (s : LS) : PV.Env := [x0, x1, some (TL s.1), some (.lst true (s.2.1.map BD)), x4, some (BD s.2.2), x6, x7, x8, x9, x10]
theorem lb_len (s : LS) (kw : Nat × Wi) : (lb s kw).1.length = s.1.length ∧ (lb s kw).2.1.length = s.2.1.length := by
  unfold lb
  cases BF.low s.1 kw.2 <;> simp
theorem lbs_len : ∀ (l : List (Nat × Wi)) (s : LS), (l.foldl lb s).1.length = s.1.length ∧ (l.foldl lb s).2.1.length = s.2.1.length
  | [], s => ⟨rfl, rfl⟩
  | kw :: l, s => by
    rw [List.foldl_cons]
    have := lbs_len l (lb s kw)
    have := lb_len s kw
    omega
theorem round_low {W : List Wi} {s : LS} (hb : s.2.1.length = s.1.length) (hW : ∀ w ∈ W, w.1 < s.1.length ∧ w.2.1 < s.1.length) {x0 x1 x4 x6 x7 x8 x9 x10 : Option D} {z : RS}
    (hz : loop tE iE ((enW W).map ED) (SL x0 x1 x4 x6 x7 x8 x9 x10 s) = z) : ∃ x6 x7 x8 x9, z = .nx (SL x0 x1 x4 x6 x7 x8 x9 x10 ((enW W).foldl lb s)) := by
  obtain ⟨e', rfl, y6, y7, y8, y9, rfl⟩ := wforM hz (fun dn ds e => ∃ y6 y7 y8 y9, e = SL x0 x1 x4 y6 y7 y8 y9 x10 (dn.foldl lb s)) ⟨_, _, _, _, rfl⟩ (by
    rintro dn kw ds e hd ⟨y6, y7, y8, y9, rfl⟩
    have hw : kw.2 ∈ W := enW_mem (by rw [← hd]; simp)
    obtain ⟨h1, h2⟩ := hW _ hw
    rw [List.foldl_append, List.foldl_cons, List.foldl_nil]
    have hl := lbs_len dn s
    generalize ht : dn.foldl lb s = u at hl ⊢
    rw [← hl.1] at h1 h2
    have h3 : kw.2.2.1 < u.2.1.length := by omega
    have a1 := at_OD h1
    have a2 := at_OD h2
    have a3 := ixN_nat h2
    have a4 := ixN_nat h3
    obtain ⟨k, w⟩ := kw
    unfold lb BF.low
    simp only [] at a1 a2 a3 a4 ⊢
    cases q1 : at_ u.1 w.1 with
    | none =>
      rw [q1] at a1
      dsimp? only [tE, iE, SL, ED, WD, TL, fIx, a1, OD, List.length_map, ODs_fz]
      exact ⟨_, _, _, _, rfl⟩
    | some x =>
      rw [q1] at a1
      cases q2 : at_ u.1 w.2.1 with
      | none =>
        rw [q2] at a2
        dsimp? only [tE, iE, SL, ED, WD, TL, fIx, a1, a2, a3, a4, OD, List.length_map, ODs_fz, set_OD, set_BD]
        exact ⟨_, _, _, _, rfl⟩
      | some y =>
        rw [q2] at a2
        by_cases hlt : x + w.2.2 < y
        · dsimp? only [tE, iE, SL, ED, WD, TL, fIx, a1, a2, a3, a4, OD, List.length_map, ODs_fz, set_OD, set_BD, eq_true hlt]
          exact ⟨_, _, _, _, rfl⟩
        · dsimp? only [tE, iE, SL, ED, WD, TL, fIx, a1, a2, a3, a4, OD, List.length_map, ODs_fz, set_OD, set_BD, eq_false hlt]
          exact ⟨_, _, _, _, rfl⟩)
  exact ⟨_, _, _, _, rfl⟩
/-- lowered's rounds -/
def lw (W : List Wi) : Nat → LS → LS
  | 0, s => s
  | m + 1, s => if ((enW W).foldl lb (s.1, s.2.1, none)).2.2 = none then (enW W).foldl lb (s.1, s.2.1, none) else lw W m ((enW W).foldl lb (s.1, s.2.1, none))
def LD (s : LS) : D := .tup [.lst false (s.1.map OD), .lst false (s.2.1.map BD), BD s.2.2]
def rL : SS := sRet (sApp (sCons (oTmp (sVar 2)) (sCons (oTmp (sVar 3)) (sCons (oTmp (sC .non)) sNil))) fTupD)
def oLw : SS := sSeq (sSet 5 (sC .non)) (sSeq (sFor (aTmps (sCons (oTmp (sVar 1)) sNil) fEnumA) tE iE) (sIf (sB (sTwo (oVar 5) (oTmp (sC .non)) fIs)) rL sSkip))
theorem loop_low {W : List Wi} {x0 x10 : Option D} : ∀ (ds : List D) (s : LS) (x4 x5 x6 x7 x8 x9 : Option D), s.2.1.length = s.1.length → (∀ w ∈ W, w.1 < s.1.length ∧ w.2.1 < s.1.length) → s.1.length ≤ 1000 → (ds ≠ [] ∨ x5 = some (BD s.2.2)) → (s.2.2 = none → ds ≠ []) →
    ∃ y4 y6 y7 y8 y9 y2 y3, loop (tgName 4) oLw ds [x0, some (WT W), some (TL s.1), some (.lst true (s.2.1.map BD)), x4, x5, x6, x7, x8, x9, x10] =
    if (lw W ds.length s).2.2 = none then .rt (LD (lw W ds.length s)) [x0, some (WT W), y2, y3, y4, some .non, y6, y7, y8, y9, x10] else .nx (SL x0 (some (WT W)) y4 y6 y7 y8 y9 x10 (lw W ds.length s))
  | [], s, x4, x5, x6, x7, x8, x9, hb, hW, hl, h5, hn => by
    have h5 : x5 = some (BD s.2.2) := h5.resolve_left (by simp)
    have hn : ¬ s.2.2 = none := fun q => hn q rfl
    subst h5
    refine ⟨x4, x6, x7, x8, x9, none, none, ?_⟩
    simp only [List.length_nil, lw, hn, if_false, loop]
    rfl
  | d :: ds, s, x4, x5, x6, x7, x8, x9, hb, hW, hl, _, _ => by
    have h1 : oLw [x0, some (WT W), some (TL s.1), some (.lst true (s.2.1.map BD)), some d, x5, x6, x7, x8, x9, x10] = (loop tE iE ((enW W).map ED) (SL x0 (some (WT W)) (some d) x6 x7 x8 x9 x10 (s.1, s.2.1, none))).thn (sIf (sB (sTwo (oVar 5) (oTmp (sC .non)) fIs)) rL sSkip) := by
      dsimp? only [oLw, SL, TL, WT, WDs_f, fEnumA, enW_D, BD]
    generalize hz : loop tE iE ((enW W).map ED) (SL x0 (some (WT W)) (some d) x6 x7 x8 x9 x10 (s.1, s.2.1, none)) = z at h1
    obtain ⟨y6, y7, y8, y9, rfl⟩ := round_low (s := (s.1, s.2.1, none)) hb hW hz
    have hl2 := lbs_len (enW W) (s.1, s.2.1, none)
    simp only [loop, tgName, List.length_cons, List.length_nil, Nat.reduceAdd, Nat.reduceLT, if_true, List.set_cons_succ, List.set_cons_zero, h1, RS.thn, lw]
    generalize hu : (enW W).foldl lb (s.1, s.2.1, none) = u at hl2
    have hl2 : u.1.length = s.1.length ∧ u.2.1.length = s.2.1.length := hl2
    by_cases q : u.2.2 = none
    · refine ⟨some d, y6, y7, y8, y9, some (.lst false (u.1.map OD)), some (.lst false (u.2.1.map BD)), ?_⟩
      dsimp? only [q, if_true, SL, rL, TL, BD, LD, ODs_fz, ODs_f, BDs_fz, BDs_f]
    · obtain ⟨c, hc⟩ := Option.ne_none_iff_exists'.mp q
      obtain ⟨z4, z6, z7, z8, z9, z2, z3, ih⟩ := loop_low (W := W) (x0 := x0) (x10 := x10) ds u (some d) (some (BD u.2.2)) y6 y7 y8 y9 (by omega) (by rw [hl2.1]; exact hW) (by omega) (.inr rfl) (fun e => absurd e q)
      refine ⟨z4, z6, z7, z8, z9, z2, z3, ?_⟩
      simp only [q, if_false]
      rw [← ih]
      dsimp? only [SL, hc, TL, BD]
end LM
set_option Elab.async false
set_option linter.all false
set_option maxRecDepth 100000
set_option maxHeartbeats 4000000
namespace LM
open PySem PySem.Spec L2 PV BF
theorem lw_len {W : List Wi} : ∀ (m : Nat) (s : LS), (lw W m s).1.length = s.1.length ∧ (lw W m s).2.1.length = s.2.1.length
  | 0, s => ⟨rfl, rfl⟩
  | m + 1, s => by
    have h := lbs_len (enW W) (s.1, s.2.1, none)
    simp only [lw]
    split
    · exact h
    · have := lw_len (W := W) m ((enW W).foldl lb (s.1, s.2.1, none))
      exact ⟨by rw [this.1, h.1], by rw [this.2, h.2]⟩
theorem e_lowered (k n : Nat) (hn : n ≤ 900) (h0 : 0 < n) {W : List Wi} (o : Bool) {t : Tl} (ht : t.length = n) (hW : ∀ w ∈ W, w.1 < n ∧ w.2.1 < n) :
    L.cl (k + 1) 1 [.int n, WT W, .lst o (t.map OD)] = .ok (LD (lw W n (t, List.replicate n none, none))) [some (.int n), some (WT W), none] := by
  have m : L.m_1 (L.cl k) = sSeq (sSet 2 (sApp (sCons (oVar 2) sNil) fLst))
    (sSeq (sSet 3 (sLc (aTmps (sCons (oTmp (sVar 0)) sNil) fRg1) (tgName 10) sYes (sC .non) [10]))
    (sSeq (sFor (aTmps (sCons (oTmp (sVar 0)) sNil) fRg1) (tgName 4) oLw)
    (sRet (sApp (sCons (oTmp (sVar 2)) (sCons (oTmp (sVar 3)) (sCons (oTmp (sVar 5)) sNil))) fTupD)))) := rfl
  have hr : fRg1 [.int (n : Int)] = some (rngD 0 n) := fRg1_nat (by omega)
  have hr' : rngD 0 n = (List.range n).map fun p : Nat => D.int (p : Int) := by simp [rngD]
  have hl' : (t.length ≤ sizeLine) = True := eq_true (by rw [size_eq]; omega)
  have h : ∀ e1, e1 = [some (.int (n : Int)), some (WT W), some (TL t), none, none, none, none, none, none, none, none] → sLc (aTmps (sCons (oTmp (sVar 0)) sNil) fRg1) (tgName 10) sYes (sC .non) [10] e1 = .ok (.lst true ((List.replicate n none).map BD)) e1 := by
    intro e1 he
    subst he
    rw [wLcM (xs := List.range n) (G := fun p : Nat => D.int (p : Int)) (fun p => .non) (e1 := [some (.int (n : Int)), some (WT W), some (TL t), none, none, none, none, none, none, none, none]) (by simp? only [hr, hr']) (fun p hp => by
      simp? only [mkF]) (by rw [size_eq]; simp; omega)]
    simp? only [mkF]
    congr 2
    rw [List.map_replicate, List.map_const', List.length_range]
    rfl
  obtain ⟨y4, y6, y7, y8, y9, y2, y3, hz⟩ := loop_low (W := W) (x0 := some (.int (n : Int))) (x10 := none) (rngD 0 n) (t, List.replicate n none, none) none none none none none none (by simp [ht]) (by rw [ht]; exact hW) (show t.length ≤ 1000 by omega) (.inl (by intro e; have := congrArg List.length e; rw [rngLen] at this; simp at this; omega)) (fun _ e => by have := congrArg List.length e; rw [rngLen] at this; simp at this; omega)
  rw [rngLen] at hz
  have h1 : sApp (sCons (oVar 2) sNil) fLst [some (.int (n : Int)), some (WT W), some (.lst o (t.map OD)), none, none, none, none, none, none, none, none] = .ok (TL t) [some (.int (n : Int)), some (WT W), some (.lst o (t.map OD)), none, none, none, none, none, none, none, none] := by
    simp? only [ODs_fz, ODs_f, List.length_map, hl', TL]
  simp only [List.map_nil] at hz
  have hz' : loop (tgName 4) oLw (rngD 0 n) [some (.int (n : Int)), some (WT W), some (TL t), some (.lst true ((List.replicate n none).map BD)), none, none, none, none, none, none, none] = _ := hz
  simp only [c1, m, L.kp_1, mkF, sSeq, sSet, List.length_cons, List.length_nil, Nat.reduceAdd, if_true, List.map_cons, List.map_nil, Nat.reduceSub, List.replicate_succ, List.replicate_zero, List.cons_append, List.nil_append, h1, R.toS, put, Nat.reduceLT, List.set_cons_succ, List.set_cons_zero, RS.thn, h _ rfl, sFor, aTmps, sCons, oTmp, sVar, sNil, List.getElem?_cons_zero, bind_ok, D.fz, tmps, Option.map_some, Option.bind_some, hr, hz']
  by_cases q : (lw W n (t, List.replicate n none, none)).2.2 = none
  · simp only [q, if_true]
    rfl
  · obtain ⟨c, hc⟩ := Option.ne_none_iff_exists'.mp q
    dsimp? only [q, if_false, SL, TL, hc, BD, LD, ODs_fz, ODs_f, BDs_fz, BDs_f, L.kp_1]
end LM
set_option Elab.async false
set_option linter.all false
set_option maxRecDepth 100000
set_option maxHeartbeats 4000000
namespace LM
open PySem PySem.Spec L2 PV BF
theorem enW_snd (W : List Wi) : (enW W).map (·.2) = W := by
  unfold enW
  apply List.ext_getElem
  · simp
  · intro i h1 h2
    simp
theorem lbs_fst : ∀ (l : List (Nat × Wi)) (s : LS), (l.foldl lb s).1 = (l.map (·.2)).foldl rlx s.1
  | [], s => rfl
  | kw :: l, s => by
    rw [List.foldl_cons, lbs_fst l, List.map_cons, List.foldl_cons]
    congr 1
    unfold lb BF.rlx
    cases BF.low s.1 kw.2 <;> rfl
theorem lbs_ps (W : List Wi) (s : LS) : ((enW W).foldl lb s).1 = ps W s.1 := by rw [lbs_fst, enW_snd]; rfl
theorem lbs_ch : ∀ (l : List (Nat × Wi)) (s : LS), s.2.2 ≠ none → (l.foldl lb s).2.2 ≠ none
  | [], s, h => h
  | kw :: l, s, h => by
    rw [List.foldl_cons]
    refine lbs_ch l _ ?_
    unfold lb
    cases BF.low s.1 kw.2 with
    | none => exact h
    | some z => simp
theorem fold_le (W : List Wi) (t : Tl) (i : Nat) : BF.Le (at_ (W.foldl rlx t) i) (at_ t i) := ps_le W t i
/-- changed is none just where the round changes nothing -/
theorem ch_iff : ∀ (l : List (Nat × Wi)) (s : LS), s.2.2 = none → (∀ kw ∈ l, kw.2.2.1 < s.1.length) → ((l.foldl lb s).2.2 = none ↔ (l.map (·.2)).foldl rlx s.1 = s.1)
  | [], s, h, _ => by simp [h]
  | kw :: l, s, h, hr => by
    rw [List.foldl_cons, List.map_cons, List.foldl_cons]
    cases q : BF.low s.1 kw.2 with
    | none =>
      have e1 : lb s kw = s := by unfold lb; rw [q]
      have e2 : BF.rlx s.1 kw.2 = s.1 := by unfold BF.rlx; rw [q]
      rw [e1, e2]
      exact ch_iff l s h fun x hx => hr x (List.mem_cons_of_mem _ hx)
    | some z =>
      have e1 : (lb s kw).2.2 ≠ none := by unfold lb; rw [q]; simp
      refine ⟨fun c => absurd c (lbs_ch l _ e1), fun c => ?_⟩
      exfalso
      obtain ⟨x, h1, h2, h3⟩ := BF.low_spec q
      have hj := hr kw List.mem_cons_self
      have f : at_ (BF.rlx s.1 kw.2) kw.2.2.1 = some z := by
        unfold BF.rlx
        rw [q]
        simp only []
        rw [at_set hj, if_pos rfl]
      obtain ⟨y, g1, g2⟩ := fold_le (l.map (·.2)) (BF.rlx s.1 kw.2) kw.2.2.1 z f
      rw [c] at g1
      have := h3 y g1
      omega
theorem pk_stay {W : List Wi} {t : Tl} (h : ps W t = t) : ∀ m, pk W m t = t
  | 0 => rfl
  | m + 1 => by rw [pk, h, pk_stay h m]
theorem ch_ps {W : List Wi} {s : LS} (hr : ∀ w ∈ W, w.2.1 < s.1.length) : ((enW W).foldl lb (s.1, s.2.1, none)).2.2 = none ↔ ps W s.1 = s.1 := by
  have := ch_iff (enW W) (s.1, s.2.1, none) rfl fun kw h => hr _ (enW_mem h)
  rw [enW_snd] at this
  exact this
theorem lw_fst {W : List Wi} : ∀ (m : Nat) (s : LS), (∀ w ∈ W, w.2.1 < s.1.length) → (lw W m s).1 = pk W m s.1
  | 0, s, _ => rfl
  | m + 1, s, hr => by
    simp only [lw]
    split
    · rename_i q
      have e := (ch_ps hr).mp q
      rw [lbs_ps, pk_stay e]
      exact e
    · rw [lw_fst m _ (by rw [lbs_ps, ps_len]; exact hr), lbs_ps, pk]
theorem lw_ch {W : List Wi} : ∀ (m : Nat) (s : LS), (∀ w ∈ W, w.2.1 < s.1.length) → ((lw W (m + 1) s).2.2 = none ↔ ps W (pk W m s.1) = pk W m s.1)
  | 0, s, hr => by
    rw [lw]
    split
    · rename_i q
      exact ⟨fun _ => (ch_ps hr).mp q, fun _ => q⟩
    · rename_i q
      exact ⟨fun c => absurd c q, fun c => absurd ((ch_ps hr).mpr c) q⟩
  | m + 1, s, hr => by
    rw [lw]
    split
    · rename_i q
      have e := (ch_ps hr).mp q
      refine ⟨fun _ => ?_, fun _ => q⟩
      rw [pk_stay e]; exact e
    · rw [lw_ch m _ (by rw [lbs_ps, ps_len]; exact hr), lbs_ps, pk]
end LM
set_option Elab.async false
set_option linter.all false
set_option maxRecDepth 100000
set_option maxHeartbeats 4000000
namespace LM
open PySem PySem.Spec L2 PV BF
theorem WT_fz (W : List Wi) : (WT W).isFz = true := by simp [WT, D.isFz, WDs_fz]
def z0 (n : Nat) : Tl := List.replicate n (some 0)
def Sta (W : List Wi) (n : Nat) (t : Tl) : Prop := ps W (pk W (n - 1) t) = pk W (n - 1) t
def ltD (W : List Wi) (n : Nat) : D := if ps W (pk W (n - 1) (z0 n)) = pk W (n - 1) (z0 n) then .tup ((pk W n (z0 n)).map OD) else .non
theorem e_latest (k n : Nat) (hn : n ≤ 900) (h0 : 0 < n) {W : List Wi} (hW : ∀ w ∈ W, w.1 < n ∧ w.2.1 < n) : L.cl (k + 2) 2 [.int n, WT W] = .ok (ltD W n) [some (.int n), some (WT W)] := by
  have hr : fRg1 [.int (n : Int)] = some ((List.range n).map fun p : Nat => D.int (p : Int)) := by rw [fRg1_nat (by omega)]; simp [rngD]
  have h : ∀ e1, e1 = [some (.int (n : Int)), some (WT W), none, none, none, none] → sLc (aTmps (sCons (oTmp (sVar 0)) sNil) fRg1) (tgName 5) sYes (sC (.int 0)) [5] e1 = .ok (.lst true ((z0 n).map OD)) e1 := by
    intro e1 he
    subst he
    rw [wLcM (xs := List.range n) (G := fun p : Nat => D.int (p : Int)) (fun p => .int 0) (e1 := [some (.int (n : Int)), some (WT W), none, none, none, none]) (by simp? only [hr]) (fun p hp => by
      simp? only [mkF]) (by rw [size_eq]; simp; omega)]
    simp? only [mkF]
    congr 2
    rw [z0, List.map_replicate, List.map_const', List.length_range]
    rfl
  have hz : (z0 n).length = n := by simp [z0]
  have e := e_lowered k n hn h0 true (t := z0 n) hz hW
  have c := lw_ch (n - 1) (W := W) (z0 n, List.replicate n none, none) (by rw [hz]; exact fun w hw => (hW w hw).2)
  have f := lw_fst n (W := W) (z0 n, List.replicate n none, none) (by rw [hz]; exact fun w hw => (hW w hw).2)
  rw [show n - 1 + 1 = n by omega] at c
  have hl := (lw_len (W := W) n (z0 n, List.replicate n none, none)).1
  have hl' : ((lw W n (z0 n, List.replicate n none, none)).1.length ≤ sizeLine) = True := eq_true (by rw [hl, hz, size_eq]; omega)
  simp only [] at f c
  generalize lw W n (z0 n, List.replicate n none, none) = s at e c f hl'
  obtain ⟨u, bs, ch⟩ := s
  subst f
  simp only [LD] at e
  unfold ltD
  by_cases q : ps W (pk W (n - 1) (z0 n)) = pk W (n - 1) (z0 n)
  · have hc := c.mpr q
    simp only [] at hc
    subst hc
    simp? only [c2, L.m_2, L.kp_2, WT_fz, sAsg, h _ rfl, e, BD, ODs_fz, ODs_f, BDs_fz, BDs_f, List.length_map, hl', q]
  · have hc : ch ≠ none := fun z => q (c.mp z)
    obtain ⟨x, rfl⟩ := Option.ne_none_iff_exists'.mp hc
    simp? only [c2, L.m_2, L.kp_2, WT_fz, sAsg, h _ rfl, e, BD, ODs_fz, ODs_f, BDs_fz, BDs_f, List.length_map, hl', q]
end LM
set_option Elab.async false
set_option linter.all false
set_option maxRecDepth 100000
set_option maxHeartbeats 4000000
namespace LM
open PySem PySem.Spec L2 PV BF
theorem e_least_sum (k n : Nat) (hn : n ≤ 900) {W : List Wi} (hW : ∀ w ∈ W, w.1 < n ∧ w.2.1 < n) {i j : Nat} (hi : i < n) (hj : j < n) :
    L.cl (k + 2) 3 [.int n, WT W, .int i, .int j] = .ok (OD (at_ (pk W n (tl0 n [(i : Int)])) j)) [some (.int n), some (WT W), some (.int i), some (.int j)] := by
  have hr : fRg1 [.int (n : Int)] = some ((List.range n).map fun p : Nat => D.int (p : Int)) := by rw [fRg1_nat (by omega)]; simp [rngD]
  have h : ∀ e1, e1 = [some (.int (n : Int)), some (WT W), some (.int (i : Int)), some (.int (j : Int)), none, none] → sLc (aTmps (sCons (oTmp (sVar 0)) sNil) fRg1) (tgName 5) sYes (sIfE (sB (sTwo (oVar 5) (oVar 2) fEq)) (sC (.int 0)) (sC .non)) [5] e1 = .ok (.lst true ((tl0 n [(i : Int)]).map OD)) e1 := by
    intro e1 he
    subst he
    rw [wLcM (xs := List.range n) (G := fun p : Nat => D.int (p : Int)) (fun p => OD (if ([(i : Int)].any fun z => z == (p : Int)) = true then some 0 else none)) (e1 := [some (.int (n : Int)), some (WT W), some (.int (i : Int)), some (.int (j : Int)), none, none]) (by simp? only [hr]) (fun p hp => by
      by_cases q : (p : Int) = (i : Int)
      · simp? only [q]
        simp [OD, wipeE]
      · have q2 : ((i : Int) == (p : Int)) = false := by simp; omega
        simp? only [q, List.any_cons, List.any_nil, q2]
        simp [OD, wipeE]) (by rw [size_eq]; simp; omega)]
    simp? only [tl0, List.map_map]
    rfl
  have hz : (tl0 n [(i : Int)]).length = n := tl0_len _ _
  have e := e_lowered k n hn (by omega) true (t := tl0 n [(i : Int)]) hz hW
  have f := lw_fst n (W := W) (tl0 n [(i : Int)], List.replicate n none, none) (by rw [hz]; exact fun w hw => (hW w hw).2)
  simp only [] at f
  generalize lw W n (tl0 n [(i : Int)], List.replicate n none, none) = s at e f
  obtain ⟨u, bs, ch⟩ := s
  subst f
  simp only [LD] at e
  have a := at_OD (t := pk W n (tl0 n [(i : Int)])) (i := j) (by rw [pk_len, hz]; exact hj)
  have b0 : (BD ch).fz = BD ch := BD_f _
  dsimp? only [c3, L.m_3, L.kp_3, WT_fz, fIx, h _ rfl, e, ODs_fz, ODs_f, BDs_fz, BDs_f, a, b0]
/-- may the wishes be kept? (as the rounds tell) -/
def Fit (W : List Wi) (n : Nat) : Prop := ps W (pk W (n - 1) (z0 n)) = pk W (n - 1) (z0 n)
theorem e_law_span (k n : Nat) (hn : n ≤ 900) {W : List Wi} (hW : ∀ w ∈ W, w.1 < n ∧ w.2.1 < n) {i j : Nat} (hi : i < n) (hj : j < n) [Decidable (Fit W n)] :
    L.cl (k + 4) 14 [.int n, WT W, .int i, .int j] = .ok (if Fit W n then OD (at_ (pk W n (tl0 n [(i : Int)])) j) else .str "Refused") [some (.int n), some (WT W), some (.int i), some (.int j)] := by
  have e1 := e_latest (k + 0) n hn (by omega) hW
  have e2 := e_least_sum k n hn hW hi hj
  by_cases q : Fit W n
  · have l : ltD W n = .tup ((pk W n (z0 n)).map OD) := if_pos q
    rw [l] at e1
    simp? only [c14, L.m_14, L.kp_14, c4, L.m_4, L.kp_4, sTry, WT_fz, e1, e2, q]
  · have l : ltD W n = .non := if_neg q
    rw [l] at e1
    simp? only [c14, L.m_14, L.kp_14, c4, L.m_4, L.kp_4, sTry, sRaise, L.rt0, WT_fz, e1, e2, q]
end LM
set_option Elab.async false
set_option linter.all false
set_option maxRecDepth 100000
set_option maxHeartbeats 4000000
namespace LM
open PySem PySem.Spec L2 PV BF
theorem cutTM {α : Type} (f : α → D) (l : List α) (i : Nat) : cutD (l.map f) none (some (i : Int)) = (l.take i).map f := by
  rw [cutTo (by omega)]; simp
theorem cutFM {α : Type} (f : α → D) (l : List α) (i : Nat) : cutD (l.map f) (some ((i : Int) + 1)) none = (l.drop (i + 1)).map f := by
  unfold cutD
  rw [show ((i : Int) + 1) = ((i + 1 : Nat) : Int) by omega, HT.sIx_nat, HT.sIx_none, List.length_map]
  rw [List.take_of_length_le (by simp)]
  by_cases h : i + 1 ≤ l.length
  · rw [Nat.min_eq_left h, List.map_drop]
  · rw [Nat.min_eq_right (by omega), List.drop_eq_nil_of_le (by simp), List.drop_eq_nil_of_le (by omega)]
    rfl
theorem catT_W {A B : List Wi} (h : A.length + B.length ≤ 1000) : fAdd (.tup (A.map WD)) (.tup (B.map WD)) = some (WT (A ++ B)) := by
  have z : ((A.map WD).length + (B.map WD).length ≤ sizeLine) = True := eq_true (by rw [size_eq]; simp; omega)
  simp only [fAdd, fOr, fI, fCatT, z, decide_true, if_true, WT, List.map_append, Option.orElse_none, Option.orElse_some]
/-- the others -/
def oth (W : List Wi) (m : Nat) : List Wi := W.take m ++ W.drop (m + 1)
theorem oth_mem {W : List Wi} {m : Nat} {w : Wi} (h : w ∈ oth W m) : w ∈ W := by
  rcases List.mem_append.mp h with h | h
  · exact List.mem_of_mem_take h
  · exact List.mem_of_mem_drop h
theorem at_WD {W : List Wi} {m : Nat} (h : m < W.length) : atI (W.map WD) (m : Int) = some (WD W[m]) := by
  rw [atI_nat (by simpa using h)]; simp
/-- what idle says -/
def idl (W : List Wi) (n m : Nat) (w : Wi) [Decidable (Fit (oth W m) n)] : Bool := if Fit (oth W m) n then (match at_ (pk (oth W m) n (tl0 n [(w.1 : Int)])) w.2.1 with
  | none => false
  | some x => decide (x ≤ w.2.2)) else true
theorem e_idle (k n : Nat) (hn : n ≤ 900) {W : List Wi} (hl : W.length ≤ 900) (hW : ∀ w ∈ W, w.1 < n ∧ w.2.1 < n) {m : Nat} (hm : m < W.length) [Decidable (Fit (oth W m) n)] :
    L.cl (k + 3) 5 [.int n, WT W, .int m] = .ok (.bl (idl W n m W[m])) [some (.int n), some (WT W), some (.int m)] := by
  have hO : ∀ w ∈ oth W m, w.1 < n ∧ w.2.1 < n := fun w hw => hW w (oth_mem hw)
  have hw := hW W[m] (List.getElem_mem _)
  have e1 := e_latest k n hn (by omega) hO
  have e2 := e_least_sum k n hn hO hw.1 hw.2
  have c := catT_W (A := W.take m) (B := W.drop (m + 1)) (by simp; omega)
  have a := at_WD hm
  unfold idl
  have hsl : ∀ e1, e1 = [some (.int (n : Int)), some (WT W), some (.int (m : Int)), none, none, none, none, none] → sTwo (oTmp (sSl (oVar 1) sNoP (sSomP (sVar 2)))) (oTmp (sSl (oVar 1) (sSomP (sTwo (oVar 2) (oTmp (sC (.int 1))) fAdd)) sNoP)) fAdd e1 = .ok (WT (oth W m)) e1 := by
    intro e1 he
    subst he
    have f1 : ∀ l : List D, (D.tup l).fz = D.tup (fzs l) := fun l => rfl
    have g1 : sSl (oVar 1) sNoP (sSomP (sVar 2)) [some (.int (n : Int)), some (WT W), some (.int (m : Int)), none, none, none, none, none] = .ok (.tup ((W.take m).map WD)) [some (.int (n : Int)), some (WT W), some (.int (m : Int)), none, none, none, none, none] := by
      simp? only [WT, cutTM]
    have g2 : sSl (oVar 1) (sSomP (sTwo (oVar 2) (oTmp (sC (.int 1))) fAdd)) sNoP [some (.int (n : Int)), some (WT W), some (.int (m : Int)), none, none, none, none, none] = .ok (.tup ((W.drop (m + 1)).map WD)) [some (.int (n : Int)), some (WT W), some (.int (m : Int)), none, none, none, none, none] := by
      simp? only [WT, cutFM]
    simp only [sTwo, oTmp, g1, g2, bind_ok, rsv, D.fz, WDs_f, c, oth]
  by_cases q : Fit (oth W m) n
  · have l : ltD (oth W m) n = .tup ((pk (oth W m) n (z0 n)).map OD) := if_pos q
    rw [l] at e1
    have ix : fIx (WT W) (.int (m : Int)) = some (WD W[m]) := by simp only [WT, fIx, a]
    have wd : WD W[m] = .tup [.int W[m].1, .int W[m].2.1, .int W[m].2.2] := rfl
    rw [wd] at ix
    cases q2 : at_ (pk (oth W m) n (tl0 n [(W[m].1 : Int)])) W[m].2.1 with
    | none =>
      rw [q2] at e2
      simp only [c5, L.m_5, mkF, sSeq, sSet, List.length_cons, List.length_nil, Nat.reduceAdd, if_true, List.map_cons, List.map_nil, Nat.reduceSub, List.replicate_succ, List.replicate_zero, List.cons_append, List.nil_append, hsl _ rfl]
      dsimp? only [L.kp_5, WT_fz, sAsg, ix, e1, e2, q, OD]
    | some x =>
      rw [q2] at e2
      simp only [c5, L.m_5, mkF, sSeq, sSet, List.length_cons, List.length_nil, Nat.reduceAdd, if_true, List.map_cons, List.map_nil, Nat.reduceSub, List.replicate_succ, List.replicate_zero, List.cons_append, List.nil_append, hsl _ rfl]
      dsimp? only [L.kp_5, WT_fz, sAsg, ix, e1, e2, q, OD]
  · have l : ltD (oth W m) n = .non := if_neg q
    rw [l] at e1
    simp only [c5, L.m_5, mkF, sSeq, sSet, List.length_cons, List.length_nil, Nat.reduceAdd, if_true, List.map_cons, List.map_nil, Nat.reduceSub, List.replicate_succ, List.replicate_zero, List.cons_append, List.nil_append, hsl _ rfl]
    simp? only [L.kp_5, WT_fz, e1, q]
end LM
set_option Elab.async false
set_option linter.all false
set_option maxRecDepth 100000
set_option maxHeartbeats 4000000
namespace LM
open PySem PySem.Spec L2 PV BF
def keptB (W : List Wi) (vs : List Int) : Bool := W.all fun w => decide (vs.getD w.2.1 0 - vs.getD w.1 0 ≤ w.2.2)
theorem at_V {vs : List Int} {i : Nat} (h : i < vs.length) : atI (vs.map D.int) (i : Int) = some (.int (vs.getD i 0)) := by
  rw [atI_nat (by simpa using h)]
  simp [List.getD_eq_getElem?_getD, h]
theorem e_are_kept (k : Nat) {W : List Wi} {vs : List Int} (hW : ∀ w ∈ W, w.1 < vs.length ∧ w.2.1 < vs.length) (hl : W.length ≤ 900) :
    L.cl (k + 1) 0 [WT W, .tup (vs.map .int)] = .ok (.bl (keptB W vs)) [some (WT W), some (.tup (vs.map .int))] := by
  simp only [c0, L.m_0, L.kp_0, mkF, List.length_cons, List.length_nil, Nat.reduceAdd, if_true, List.map_cons, List.map_nil, Nat.reduceSub, List.replicate_succ, List.replicate_zero, List.cons_append, List.nil_append, sRet]
  rw [wAllM (xs := W) (G := WD) (fun w => decide (vs.getD w.2.1 0 - vs.getD w.1 0 ≤ w.2.2)) (e1 := [some (WT W), some (.tup (vs.map .int)), none, none, none]) (by simp? only [WT, WDs_f]) (fun w hw => by
    have a1 := at_V (hW w hw).1
    have a2 := at_V (hW w hw).2
    dsimp? only [WD, fIx, a1, a2])]
  simp? only [keptB, L.kp_0]
end LM
set_option Elab.async false
set_option linter.all false
set_option maxRecDepth 100000
set_option maxHeartbeats 4000000
namespace LM
open PySem PySem.Spec L2 PV BF
theorem IsDr.nf {d : D} (h : IsDr d) : d.isFz = false := by obtain ⟨o, t, l, cs, _, rfl⟩ := h; rfl
/-- the hidden numbers -/
theorem t_hidden (k n : Nat) (hn : n ≤ 900) {d : D} (hd : IsDr d) (x2 : Option D) : ∃ (hs : List Int) (d' : D), IsDr d' ∧ hs.length = n ∧ (∀ x ∈ hs, 0 ≤ x ∧ x < 12) ∧
    sLc (aTmps (sCons (oTmp (sVar 1)) sNil) fRg1) (tgName 10) sYes (sCall 2 (L.cl (k + 2) 8) (sCons (oVar 0) (sCons (oTmp (sC (.int 12))) sNil))) [10] [some d, some (.int (n : Int)), x2, none, none, none, none, none, none, none, none] = .ok (.lst true (hs.map D.int)) [some d', some (.int (n : Int)), x2, none, none, none, none, none, none, none, none] := by
  have hr : fRg1 [.int (n : Int)] = some (rngD 0 n) := fRg1_nat (by omega)
  obtain ⟨ys, e', h1, h2, h3, h4⟩ := wLc_inv (it := aTmps (sCons (oTmp (sVar 1)) sNil) fRg1) (g := tgName 10) (c := sYes) (el := sCall 2 (L.cl (k + 2) 8) (sCons (oVar 0) (sCons (oTmp (sC (.int 12))) sNil))) (vs := [10]) (e := [some d, some (.int (n : Int)), x2, none, none, none, none, none, none, none, none]) (e1 := [some d, some (.int (n : Int)), x2, none, none, none, none, none, none, none, none]) (ds := rngD 0 n)
    (fun e => ∃ d' y, IsDr d' ∧ e = [some d', some (.int (n : Int)), x2, none, none, none, none, none, none, none, y]) (fun y => ∃ v : Int, y = .int v ∧ 0 ≤ v ∧ v < 12) (by simp? only [hr]) ⟨d, none, hd, rfl⟩ (by
      rintro p hp e ⟨d', y, h', rfl⟩
      obtain ⟨v, d2, v0, v1, i2, e2⟩ := t_draw k h' (s := 12) (by decide) (by decide)
      have nf := h'.nf
      simp? only [nf, e2]
      exact ⟨⟨_, rfl, v, rfl, v0, v1⟩, d2, _, i2, rfl⟩) (by rw [rngLen, size_eq]; omega)
  obtain ⟨d', y, i', rfl⟩ := h4
  have key : ∃ hs : List Int, ys = hs.map D.int ∧ ∀ x ∈ hs, 0 ≤ x ∧ x < 12 := by
    clear h1 h2
    induction ys with
    | nil => exact ⟨[], rfl, by simp⟩
    | cons a ys ih =>
      obtain ⟨hs, rfl, h⟩ := ih fun y hy => h3 y (List.mem_cons_of_mem _ hy)
      obtain ⟨v, rfl, v0, v1⟩ := h3 a List.mem_cons_self
      exact ⟨v :: hs, rfl, by
        intro x hx
        rcases List.mem_cons.mp hx with e | e
        · subst e; exact ⟨v0, v1⟩
        · exact h x e⟩
  obtain ⟨hs, rfl, hh⟩ := key
  refine ⟨hs, d', i', by rw [rngLen] at h2; simpa using h2, hh, ?_⟩
  rw [h1]
  simp? only [mkF]
end LM
set_option Elab.async false
set_option linter.all false
set_option maxRecDepth 100000
set_option maxHeartbeats 4000000
namespace LM
open PySem PySem.Spec L2 PV BF
def wB (c : Nat → FnD) : SS := (sSeq (sSet 7 (sCall 2 (c 8) (sCons (oVar 0) (sCons (oVar 1) sNil))))
    (sSeq (sSet 8 (sTwo (oTmp (sApp (sCons (oTmp (sTwo (oTmp (sTwo (oVar 7) (oTmp (sC (.int 1))) fAdd)) (oTmp (sCall 2 (c 8) (sCons (oVar 0) (sCons (oTmp (sTwo (oVar 1) (oTmp (sC (.int 1))) fSub)) sNil)))) fAdd)) sNil) fInt)) (oVar 1) fMod))
    (sSeq (sSet 9 (sTwo (oTmp (sTwo (oVar 3) (oVar 8) fIx)) (oTmp (sTwo (oVar 3) (oVar 7) fIx)) fSub))
    (sDrop (sApnd 5 (sApp (sCons (oTmp (sVar 7)) (sCons (oTmp (sVar 8)) (sCons (oTmp (sTwo (oTmp (sTwo (oVar 9) (oTmp (sCall 2 (c 8) (sCons (oVar 0) (sCons (oTmp (sTwo (oTmp (sLstD (sCons (oTmp (sC (.int 4))) (sCons (oTmp (sC (.int 3))) (sCons (oTmp (sC (.int 7))) sNil))))) (oVar 4) fIx)) sNil)))) fAdd)) (oTmp (sTwo (oTmp (sLstD (sCons (oTmp (sC (.int 0))) (sCons (oTmp (sC (.int 1))) (sCons (oTmp (sC (.int 5))) sNil))))) (oVar 4) fIx)) fSub)) sNil))) fTupD))))))
def okW (n : Nat) (w : Wi) : Prop := w.1 < n ∧ w.2.1 < n ∧ -16 ≤ w.2.2 ∧ w.2.2 ≤ 14
theorem w_body (k n : Nat) (h1 : 1 < n) (hn : n ≤ 900) {d : D} (hd : IsDr d) {hs : List Int} (hl : hs.length = n) (hh : ∀ x ∈ hs, 0 ≤ x ∧ x < 12) {kd : Int} (k0 : 0 ≤ kd) (k3 : kd < 3) (W : List Wi) (x2 x6 x7 x8 x9 y : Option D) (hW : W.length ≤ 900) :
    ∃ d' w y7 y8 y9, IsDr d' ∧ okW n w ∧ wB (L.cl (k + 2)) [some d, some (.int (n : Int)), x2, some (.lst true (hs.map D.int)), some (.int kd), some (.lst true (W.map WD)), x6, x7, x8, x9, y] =
      .nx [some d', some (.int (n : Int)), x2, some (.lst true (hs.map D.int)), some (.int kd), some (.lst true ((W ++ [w]).map WD)), x6, y7, y8, y9, y] := by
  obtain ⟨v1, d1, a1, b1, i1, e1⟩ := t_draw k hd (s := (n : Int)) (by omega) (by omega)
  obtain ⟨v2, d2, a2, b2, i2, e2⟩ := t_draw k i1 (s := (n : Int) - 1) (by omega) (by omega)
  obtain ⟨i, rfl⟩ := Int.eq_ofNat_of_zero_le a1
  have m0 := Int.fmod_nonneg_of_pos ((i : Int) + 1 + v2) (show (0 : Int) < (n : Int) by omega)
  have m1 := Int.fmod_lt_of_pos ((i : Int) + 1 + v2) (show (0 : Int) < (n : Int) by omega)
  obtain ⟨j, hj⟩ := Int.eq_ofNat_of_zero_le m0
  rw [hj] at m1
  have hi' : i < hs.length := by omega
  have hj' : j < hs.length := by omega
  have g1 := at_V hi'
  have g2 := at_V hj'
  have r1 : 0 ≤ hs.getD i 0 ∧ hs.getD i 0 < 12 := hh _ (by rw [List.getD_eq_getElem?_getD, List.getElem?_eq_getElem hi']; exact List.getElem_mem _)
  have r2 : 0 ≤ hs.getD j 0 ∧ hs.getD j 0 < 12 := hh _ (by rw [List.getD_eq_getElem?_getD, List.getElem?_eq_getElem hj']; exact List.getElem_mem _)
  have nf := hd.nf
  have nf1 := i1.nf
  have nf2 := i2.nf
  have n0 : ((n : Int) = 0) = False := eq_false (by omega)
  have kk : kd = 0 ∨ kd = 1 ∨ kd = 2 := by omega
  have sz : ∀ m : Nat, m ≤ 1000 → (m < sizeLine) = True := fun m h => eq_true (by rw [size_eq]; omega)
  rcases kk with rfl | rfl | rfl
  · obtain ⟨v3, d3, a3, b3, i3, e3⟩ := t_draw k i2 (s := 4) (by decide) (by decide)
    refine ⟨d3, (i, j, hs.getD j 0 - hs.getD i 0 + v3 - 0), some (.int (i : Int)), some (.int (j : Int)), some (.int (hs.getD j 0 - hs.getD i 0)), i3, ⟨show i < n by omega, show j < n by omega, show -16 ≤ hs.getD j 0 - hs.getD i 0 + v3 - 0 by omega, show hs.getD j 0 - hs.getD i 0 + v3 - 0 ≤ 14 by omega⟩, ?_⟩
    have ia : atI [D.int 4, D.int 3, D.int 7] 0 = some (.int 4) := by rfl
    have ib : atI [D.int 0, D.int 1, D.int 5] 0 = some (.int 0) := by rfl
    dsimp? only [wB, fIx, nf, nf1, nf2, e1, e2, e3, hj, n0, g1, g2, List.length_map, sz _ (show W.length ≤ 1000 by omega), List.map_append, WD, ia, ib]
  · obtain ⟨v3, d3, a3, b3, i3, e3⟩ := t_draw k i2 (s := 3) (by decide) (by decide)
    refine ⟨d3, (i, j, hs.getD j 0 - hs.getD i 0 + v3 - 1), some (.int (i : Int)), some (.int (j : Int)), some (.int (hs.getD j 0 - hs.getD i 0)), i3, ⟨show i < n by omega, show j < n by omega, show -16 ≤ hs.getD j 0 - hs.getD i 0 + v3 - 1 by omega, show hs.getD j 0 - hs.getD i 0 + v3 - 1 ≤ 14 by omega⟩, ?_⟩
    have ia : atI [D.int 4, D.int 3, D.int 7] 1 = some (.int 3) := by rfl
    have ib : atI [D.int 0, D.int 1, D.int 5] 1 = some (.int 1) := by rfl
    dsimp? only [wB, fIx, nf, nf1, nf2, e1, e2, e3, hj, n0, g1, g2, List.length_map, sz _ (show W.length ≤ 1000 by omega), List.map_append, WD, ia, ib]
  · obtain ⟨v3, d3, a3, b3, i3, e3⟩ := t_draw k i2 (s := 7) (by decide) (by decide)
    refine ⟨d3, (i, j, hs.getD j 0 - hs.getD i 0 + v3 - 5), some (.int (i : Int)), some (.int (j : Int)), some (.int (hs.getD j 0 - hs.getD i 0)), i3, ⟨show i < n by omega, show j < n by omega, show -16 ≤ hs.getD j 0 - hs.getD i 0 + v3 - 5 by omega, show hs.getD j 0 - hs.getD i 0 + v3 - 5 ≤ 14 by omega⟩, ?_⟩
    have ia : atI [D.int 4, D.int 3, D.int 7] 2 = some (.int 7) := by rfl
    have ib : atI [D.int 0, D.int 1, D.int 5] 2 = some (.int 5) := by rfl
    dsimp? only [wB, fIx, nf, nf1, nf2, e1, e2, e3, hj, n0, g1, g2, List.length_map, sz _ (show W.length ≤ 1000 by omega), List.map_append, WD, ia, ib]
end LM
set_option Elab.async false
set_option linter.all false
set_option maxRecDepth 100000
set_option maxHeartbeats 4000000
namespace LM
open PySem PySem.Spec L2 PV BF
theorem t_wishes (k n : Nat) (h0 : 0 < n) (hn : n ≤ 900) (most : Nat) (hm : most ≤ 800) {d : D} (hd : IsDr d) : ∃ (W : List Wi) (d' : D), IsDr d' ∧ W.length ≤ most ∧ (∀ w ∈ W, okW n w) ∧
    L.cl (k + 3) 12 [d, .int (n : Int), .int (most : Int)] = .ok (WT W) [some d', some (.int (n : Int)), some (.int (most : Int))] := by
  obtain ⟨hs, d1, i1, hl, hh, e1⟩ := t_hidden k n hn hd (some (.int (most : Int)))
  obtain ⟨kd, d2, k0, k3, i2, e2⟩ := t_draw k i1 (s := 3) (by decide) (by decide)
  have m : L.m_12 (L.cl (k + 2)) = sSeq (sSet 3 (sLc (aTmps (sCons (oTmp (sVar 1)) sNil) fRg1) (tgName 10) sYes (sCall 2 (L.cl (k + 2) 8) (sCons (oVar 0) (sCons (oTmp (sC (.int 12))) sNil))) [10]))
    (sSeq (sSet 4 (sCall 2 (L.cl (k + 2) 8) (sCons (oVar 0) (sCons (oTmp (sC (.int 3))) sNil))))
    (sSeq (sSet 5 (sLstD sNil))
    (sSeq (sFor (aTmps (sCons (oTmp (sIfE (sB (sTwo (oVar 1) (oTmp (sC (.int 1))) fGt)) (sCall 2 (L.cl (k + 2) 8) (sCons (oVar 0) (sCons (oTmp (sTwo (oVar 2) (oTmp (sC (.int 1))) fAdd)) sNil))) (sC (.int 0)))) sNil) fRg1) (tgName 6) (wB (L.cl (k + 2))))
    (sRet (sApp (sCons (oVar 5) sNil) fTup))))) := rfl
  have nf1 := i1.nf
  have nf2 := i2.nf
  have cnt : ∃ (c : Nat) (d3 : D), c ≤ most ∧ IsDr d3 ∧ (c = 0 ∨ 1 < n) ∧ ∀ x3 x4 x5, aTmps (sCons (oTmp (sIfE (sB (sTwo (oVar 1) (oTmp (sC (.int 1))) fGt)) (sCall 2 (L.cl (k + 2) 8) (sCons (oVar 0) (sCons (oTmp (sTwo (oVar 2) (oTmp (sC (.int 1))) fAdd)) sNil))) (sC (.int 0)))) sNil) fRg1 [some d2, some (.int (n : Int)), some (.int (most : Int)), x3, x4, x5, none, none, none, none, none] = .ok (rngD 0 c) [some d3, some (.int (n : Int)), some (.int (most : Int)), x3, x4, x5, none, none, none, none, none] := by
    by_cases q : 1 < n
    · obtain ⟨v, d3, v0, v1, i3, e3⟩ := t_draw k i2 (s := (most : Int) + 1) (by omega) (by omega)
      obtain ⟨c, rfl⟩ := Int.eq_ofNat_of_zero_le v0
      refine ⟨c, d3, by omega, i3, .inr q, fun x3 x4 x5 => ?_⟩
      have g : ((1 : Int) < (n : Int)) = True := eq_true (by omega)
      have hr : fRg1 [.int (c : Int)] = some (rngD 0 c) := fRg1_nat (by omega)
      simp? only [g, nf2, e3, hr]
    · refine ⟨0, d2, by omega, i2, .inl rfl, fun x3 x4 x5 => ?_⟩
      have g : ((1 : Int) < (n : Int)) = False := eq_false (by omega)
      have hr : fRg1 [.int 0] = some (rngD 0 0) := fRg1_nat (n := 0) (by omega)
      simp? only [g, hr]
  obtain ⟨c, d3, c0, i3, c1, e3⟩ := cnt
  generalize hL : loop (tgName 6) (wB (L.cl (k + 2))) (rngD 0 c) [some d3, some (.int (n : Int)), some (.int (most : Int)), some (.lst true (hs.map D.int)), some (.int kd), some (.lst true []), none, none, none, none, none] = z
  obtain ⟨e', rfl, d4, W, x6, x7, x8, x9, i4, w0, w1, rfl⟩ := wloopR hL (fun q e => ∃ (d4 : D) (W : List Wi) (x6 x7 x8 x9 : Option D), IsDr d4 ∧ W.length = q ∧ (∀ w ∈ W, okW n w) ∧ e = [some d4, some (.int (n : Int)), some (.int (most : Int)), some (.lst true (hs.map D.int)), some (.int kd), some (.lst true (W.map WD)), x6, x7, x8, x9, none]) ⟨d3, [], none, none, none, none, i3, rfl, by simp, rfl⟩ (by
    rintro q e hq ⟨d4, W, x6, x7, x8, x9, i4, w0, w1, rfl⟩
    obtain ⟨d5, w, y7, y8, y9, i5, ow, eb⟩ := w_body k n (by omega) hn i4 hl hh k0 k3 W (some (.int (most : Int))) (some (.int (0 + (q : Int)))) x7 x8 x9 none (by omega)
    simp? only [eb]
    exact ⟨d5, W ++ [w], _, _, _, _, i5, by simp [w0], fun v hv => by
      rcases List.mem_append.mp hv with h | h
      · exact w1 v h
      · rw [List.mem_singleton.mp h]; exact ow, rfl⟩)
  refine ⟨W, d4, i4, by omega, w1, ?_⟩
  have hs2 : ((W.map WD).length ≤ sizeLine) = True := eq_true (by rw [size_eq]; simp; omega)
  have h2 : sCall 2 (L.cl (k + 2) 8) (sCons (oVar 0) (sCons (oTmp (sC (.int 3))) sNil)) [some d1, some (.int (n : Int)), some (.int (most : Int)), some (.lst true (hs.map D.int)), none, none, none, none, none, none, none] = .ok (.int kd) [some d2, some (.int (n : Int)), some (.int (most : Int)), some (.lst true (hs.map D.int)), none, none, none, none, none, none, none] := by
    simp? only [nf1, e2]
  have h3 : ∀ e, sLstD sNil e = .ok (.lst true []) e := fun e => rfl
  simp only [c12, m, mkF, sSeq, sSet, List.length_cons, List.length_nil, Nat.reduceAdd, if_true, List.map_cons, List.map_nil, Nat.reduceSub, List.replicate_succ, List.replicate_zero, List.cons_append, List.nil_append, e1, R.toS, put, Nat.reduceLT, List.set_cons_succ, List.set_cons_zero, RS.thn, h2, h3, sFor, e3, hL]
  simp? only [WDs_fz, WDs_f, hs2, WT, L.kp_12]
end LM
set_option Elab.async false
set_option linter.all false
set_option maxRecDepth 100000
set_option maxHeartbeats 4000000
namespace LM
open PySem PySem.Spec L2 PV BF
theorem z0_len (n : Nat) : (z0 n).length = n := by simp [z0]
theorem z0_at {n i : Nat} (h : i < n) : at_ (z0 n) i = some 0 := by
  unfold at_ z0
  simp [List.getD_eq_getElem?_getD, h]
theorem z0_zero {n i : Nat} {x : Int} (h : at_ (z0 n) i = some x) : x = 0 := by
  have := at_lt h
  rw [z0_len] at this
  rw [z0_at this] at h
  cases h; rfl
theorem tl0_zero {n i : Nat} {fs : List Int} {x : Int} (h : at_ (tl0 n fs) i = some x) : x = 0 := by
  have hl := at_lt h
  rw [tl0_len] at hl
  unfold at_ tl0 at h
  simp only [List.getD_eq_getElem?_getD, List.getElem?_map, List.getElem?_range hl, Option.map_some, Option.getD_some] at h
  split at h
  · cases h; rfl
  · cases h
theorem tl0_range (n : Nat) : tl0 n ((List.range n).map fun p : Nat => (p : Int)) = z0 n := by
  unfold tl0 z0
  apply List.ext_getElem
  · simp
  · intro i h1 h2
    simp only [List.length_map, List.length_range] at h1
    simp only [List.getElem_map, List.getElem_range, List.getElem_replicate, List.any_map, Function.comp]
    rw [if_pos]
    rw [List.any_eq_true]
    exact ⟨i, List.mem_range.mpr h1, by simp⟩
theorem pk_some {W : List Wi} {k n i : Nat} (h : i < n) : ∃ x, at_ (pk W k (z0 n)) i = some x ∧ x ≤ 0 := pk_le W k (z0 n) i 0 (z0_at h)
/-- numbers that a round leaves keep the wishes -/
def pot (u : Tl) (i : Nat) : Int := (at_ u i).getD 0
theorem stab_pot {W : List Wi} {n : Nat} {u : Tl} (hu : u.length = n) (hs : ps W u = u) (ha : ∀ i, i < n → ∃ x, at_ u i = some x) (hW : ∀ w ∈ W, w.1 < n ∧ w.2.1 < n) : Pot W (pot u) := fun w hw => by
  obtain ⟨h1, h2⟩ := hW w hw
  obtain ⟨x, hx⟩ := ha _ h1
  obtain ⟨y, g1, g2⟩ := ps_hit (t := u) hw (by rw [hu]; exact h2) hx
  rw [hs] at g1
  unfold pot
  rw [g1, hx]
  exact g2
theorem Fit.pot {W : List Wi} {n : Nat} (h : Fit W n) (hW : ∀ w ∈ W, w.1 < n ∧ w.2.1 < n) : Pot W (pot (pk W (n - 1) (z0 n))) :=
  stab_pot (by rw [pk_len, z0_len]) h (fun i hi => by obtain ⟨x, hx, _⟩ := pk_some (W := W) (k := n - 1) hi; exact ⟨x, hx⟩) hW
theorem Fit.stay {W : List Wi} {n : Nat} (h : Fit W n) (h0 : 0 < n) (hW : ∀ w ∈ W, w.1 < n ∧ w.2.1 < n) {t : Tl} (ht : t.length = n) : ps W (pk W n t) = pk W n t := by
  have e := stable (h.pot hW) ht h0 fun w hw => (hW w hw).2
  conv => rhs; rw [show n = n - 1 + 1 by omega, pk_succ, ← e]
theorem Fit.lst {W : List Wi} {n : Nat} (h : Fit W n) (h0 : 0 < n) (hW : ∀ w ∈ W, w.1 < n ∧ w.2.1 < n) {t : Tl} (ht : t.length = n) : LM.lst W (n + 1) t = some (pk W n t) := by
  have s := h.stay h0 hW ht
  cases q : LM.lst W (n + 1) t with
  | none => exact absurd s (lst_none q)
  | some u =>
    have := (lst_some q).2
    rw [pk_succ, s] at this
    rw [this]
theorem noFit_lst {W : List Wi} {n : Nat} (h : ¬ Fit W n) (h0 : 0 < n) (hW : ∀ w ∈ W, w.1 < n ∧ w.2.1 < n) : LM.lst W (n + 1) (z0 n) = none := by
  cases q : LM.lst W (n + 1) (z0 n) with
  | none => rfl
  | some u =>
    exfalso
    obtain ⟨h1, h2⟩ := lst_some q
    have hp : Pot W (LM.pot u) := stab_pot (n := n) (by rw [h2, pk_len, z0_len]) h1 (fun i hi => by
      obtain ⟨x, hx, _⟩ := pk_some (W := W) (k := n + 1) hi
      rw [h2]
      exact ⟨x, hx⟩) hW
    have e := stable hp (z0_len n) h0 fun w hw => (hW w hw).2
    apply h
    unfold Fit
    rw [← pk_succ, show n - 1 + 1 = n by omega, e]
/-- bounds -/
theorem cost_bnd {W : List Wi} {n : Nat} (hW : ∀ w ∈ W, okW n w) : ∀ {l : List Wi} {i j : Nat}, Wk W i j l → -16 * (l.length : Int) ≤ cost l ∧ cost l ≤ 14 * (l.length : Int)
  | [], _, _, _ => by simp [cost]
  | w :: l, i, j, ⟨h1, h2, h3⟩ => by
    have := cost_bnd hW h3
    have := hW w h1
    unfold okW at this
    simp only [cost, List.length_cons]
    omega
theorem bnd {W : List Wi} {n : Nat} {π : Nat → Int} (hp : Pot W π) (hW : ∀ w ∈ W, okW n w) {t : Tl} (ht : t.length = n) (h0 : ∀ i x, at_ t i = some x → x = 0) {j : Nat} {y : Int} (hy : at_ (pk W n t) j = some y) : -16 * (n : Int) ≤ y ∧ y ≤ 14 * (n : Int) := by
  obtain ⟨i, x, l, g1, g2, g3⟩ := (Wit.refl W t).pk n j y hy
  obtain ⟨m, k1, k2, k3⟩ := simple hp l i j g1
  have hl := nodup_len n _ k3 fun z hz => by
    rcases List.mem_cons.mp hz with e | e
    · subst e
      have := at_lt g2
      omega
    · exact Wk.map_lt (fun w hw => (hW w hw).2.1) k1 z e
  simp only [List.length_cons, List.length_map] at hl
  obtain ⟨z, q1, q2⟩ := low_walk (k := n) (by rw [ht]; exact fun w hw => (hW w hw).2.1) k1 g2 (by omega)
  rw [hy] at q1
  cases q1
  have hx := h0 _ _ g2
  subst hx
  have := cost_bnd hW k1
  omega
/-- the told row -/
def R54 (u v : Tl) (p : Nat) : Int := match at_ v p with
  | none => pot u p + 1000000000
  | some x => x
theorem kept54 {W : List Wi} {n : Nat} (hn : n ≤ 900) (hW : ∀ w ∈ W, okW n w) {u v : Tl} (hu : u.length = n) (hv : v.length = n) (su : ps W u = u) (sv : ps W v = v) (ha : ∀ i, i < n → ∃ x, at_ u i = some x)
    (bu : ∀ j y, at_ u j = some y → -16 * (n : Int) ≤ y ∧ y ≤ 14 * (n : Int)) (bv : ∀ j y, at_ v j = some y → -16 * (n : Int) ≤ y ∧ y ≤ 14 * (n : Int)) :
    keptB W ((List.range n).map (R54 u v)) = true := by
  unfold keptB
  rw [List.all_eq_true]
  intro w hw
  have o := hW w hw
  have gR : ∀ p, p < n → ((List.range n).map (R54 u v)).getD p 0 = R54 u v p := fun p hp => by
    simp [List.getD_eq_getElem?_getD, hp]
  rw [gR _ o.1, gR _ o.2.1]
  have hp := stab_pot hu su ha (fun w hw => ⟨(hW w hw).1, (hW w hw).2.1⟩) w hw
  have pb : ∀ i, i < n → -16 * (n : Int) ≤ pot u i ∧ pot u i ≤ 14 * (n : Int) := fun i hi => by
    obtain ⟨x, hx⟩ := ha i hi
    have := bu i x hx
    unfold pot
    rw [hx]
    exact this
  have p1 := pb _ o.1
  have p2 := pb _ o.2.1
  obtain ⟨o1, o2, o3, o4⟩ := o
  unfold R54
  cases q1 : at_ v w.1 with
  | none =>
    cases q2 : at_ v w.2.1 with
    | none => simp only [decide_eq_true_eq]; omega
    | some y =>
      have := bv _ _ q2
      simp only [decide_eq_true_eq]; omega
  | some x =>
    obtain ⟨y, g1, g2⟩ := ps_hit (t := v) hw (by rw [hv]; exact o2) q1
    rw [sv] at g1
    rw [g1]
    simp only [decide_eq_true_eq]; omega
end LM
set_option Elab.async false
set_option linter.all false
set_option maxRecDepth 100000
set_option maxHeartbeats 4000000
namespace LM
open PySem PySem.Spec L2 PV BF
def pz_0 (c : Nat → FnD) : SS := (sSet 1 (sCall 1 (c 6) (sCons (oVar 0) sNil)))
def pz_1 (c : Nat → FnD) : SS := (sSet 2 (sTwo (oTmp (sC (.int 2))) (oTmp (sCall 2 (c 8) (sCons (oVar 1) (sCons (oTmp (sTwo (oTmp (sLstD (sCons (oTmp (sC (.int 3))) (sCons (oTmp (sC (.int 7))) sNil)))) (oTmp (sCall 2 (c 8) (sCons (oVar 1) (sCons (oTmp (sC (.int 2))) sNil)))) fIx)) sNil)))) fAdd))
def pz_2 (c : Nat → FnD) : SS := (sSet 3 (sCall 3 (c 12) (sCons (oVar 1) (sCons (oVar 2) (sCons (oTmp (sTwo (oTmp (sLstD (sCons (oTmp (sC (.int 4))) (sCons (oTmp (sC (.int 16))) sNil)))) (oTmp (sCall 2 (c 8) (sCons (oVar 1) (sCons (oTmp (sC (.int 2))) sNil)))) fIx)) sNil)))))
def pz_3 (c : Nat → FnD) : SS := (sSet 4 (sTwo (oTmp (sCall 3 (c 13) (sCons (oVar 2) (sCons (oVar 3) (sCons (oTmp (sOne (oVar 2) fLRg)) sNil))))) (oTmp (sC .non)) fIsnt))
def pz_4 (c : Nat → FnD) : SS := (sIf (sB (sTwo (oTmp (sTwo (oTmp (sCall 2 (c 2) (sCons (oVar 2) (sCons (oVar 3) sNil)))) (oTmp (sC .non)) fIsnt)) (oVar 4) fNe)) (sRet (sC (.bl false))) sSkip)
def pz_5b_0 (c : Nat → FnD) : SS := (sSet 6 (sCall 3 (c 13) (sCons (oVar 2) (sCons (oVar 3) (sCons (oTmp (sLstD (sCons (oTmp (sVar 5)) sNil))) sNil)))))
def pz_5b_1b_0 (c : Nat → FnD) : SS := (sSet 8 (sCall 4 (c 14) (sCons (oVar 2) (sCons (oVar 3) (sCons (oVar 5) (sCons (oVar 7) sNil))))))
def pz_5b_1b_1 (c : Nat → FnD) : SS := (sIf (sNot (sTru (oVar 4))) (sIf (sB (sTwo (oVar 8) (oTmp (sC (.str "Refused"))) fNe)) (sRet (sC (.bl false))) sSkip) (sIf (sOr (sB (sTwo (oVar 8) (oTmp (sTwo (oVar 6) (oVar 7) fIx)) fNe)) (sAnd (sB (sTwo (oVar 8) (oTmp (sC .non)) fIsnt)) (sNot (sB (sCall 1 (c 10) (sCons (oVar 8) sNil)))))) (sRet (sC (.bl false))) sSkip))
def pz_5b_1b (c : Nat → FnD) : SS := (sSeq (pz_5b_1b_0 c) (pz_5b_1b_1 c))
def pz_5b_1 (c : Nat → FnD) : SS := (sFor (aTmps (sCons (oTmp (sVar 2)) sNil) fRg1) (tgName 7) (pz_5b_1b c))
def pz_5b_2 (c : Nat → FnD) : SS := (sIf (sTru (oVar 4)) (sSeq (sSet 9 (sLc (iOf (sVar 6) isSeq) (tgName 14) sYes (sIfE (sB (sTwo (oVar 14) (oTmp (sC .non)) fIs)) (sC (.int 0)) (sVar 14)) [14])) (sSeq (sIf (sB (sTwo (oTmp (sApp (sCons (oVar 9) sNil) fMinA)) (oTmp (sOne (oTmp (sTwo (oTmp (sC (.int 10))) (oTmp (sC (.int 7))) fPow)) fNeg)) fLt)) (sRet (sC (.bl false))) sSkip) (sSeq (sSet 10 (sCall 2 (c 2) (sCons (oVar 2) (sCons (oVar 3) sNil)))) (sSeq (sSet 11 (sApp (sCons (oTmp (sLc (aTmps (sCons (oTmp (sVar 2)) sNil) fRg1) (tgName 18) sYes (sIfE (sB (sTwo (oTmp (sTwo (oVar 6) (oVar 18) fIx)) (oTmp (sC .non)) fIs)) (sTwo (oTmp (sTwo (oVar 10) (oVar 18) fIx)) (oTmp (sTwo (oTmp (sC (.int 10))) (oTmp (sC (.int 9))) fPow)) fAdd) (sTwo (oVar 6) (oVar 18) fIx)) [18])) sNil) fTup)) (sIf (sB (sTwo (oTmp (sCall 2 (c 0) (sCons (oVar 3) (sCons (oVar 11) sNil)))) (oTmp (sC (.bl true))) fIsnt)) (sRet (sC (.bl false))) sSkip))))) sSkip)
def pz_5b (c : Nat → FnD) : SS := (sSeq (pz_5b_0 c) (sSeq (pz_5b_1 c) (pz_5b_2 c)))
def pz_5 (c : Nat → FnD) : SS := (sFor (aTmps (sCons (oTmp (sVar 2)) sNil) fRg1) (tgName 5) (pz_5b c))
def pz_6b_0 (c : Nat → FnD) : SS := (sSet 13 (sTwo (oTmp (sSl (oVar 3) sNoP (sSomP (sVar 12)))) (oTmp (sSl (oVar 3) (sSomP (sTwo (oVar 12) (oTmp (sC (.int 1))) fAdd)) sNoP)) fAdd))
def pz_6b_1 (c : Nat → FnD) : SS := (sAsg (sTwo (oVar 3) (oVar 12) fIx) (tgTup 3 (tgCons (tgName 14) (tgCons (tgName 15) (tgCons (tgName 16) tgNil)))))
def pz_6b_2 (c : Nat → FnD) : SS := (sSet 17 (sC (.bl true)))
def pz_6b_3 (c : Nat → FnD) : SS := (sIf (sB (sTwo (oTmp (sCall 3 (c 13) (sCons (oVar 2) (sCons (oVar 13) (sCons (oTmp (sOne (oVar 2) fLRg)) sNil))))) (oTmp (sC .non)) fIsnt)) (sSeq (sSet 6 (sTwo (oTmp (sCall 3 (c 13) (sCons (oVar 2) (sCons (oVar 13) (sCons (oTmp (sLstD (sCons (oTmp (sVar 14)) sNil))) sNil))))) (oVar 15) fIx)) (sSet 17 (sAndV (sTwo (oVar 6) (oTmp (sC .non)) fIsnt) (sTwo (oVar 6) (oVar 16) fLe)))) sSkip)
def pz_6b_4 (c : Nat → FnD) : SS := (sIf (sNot (sB (sCall 2 (c 11) (sCons (oTmp (sCall 3 (c 5) (sCons (oVar 2) (sCons (oVar 3) (sCons (oVar 12) sNil))))) (sCons (oVar 17) sNil))))) (sRet (sC (.bl false))) sSkip)
def pz_6b (c : Nat → FnD) : SS := (sSeq (pz_6b_0 c) (sSeq (pz_6b_1 c) (sSeq (pz_6b_2 c) (sSeq (pz_6b_3 c) (pz_6b_4 c)))))
def pz_6 (c : Nat → FnD) : SS := (sFor (aTmps (sCons (oTmp (sApp (sCons (oVar 3) sNil) fLen)) sNil) fRg1) (tgName 12) (pz_6b c))
def pz_7 (c : Nat → FnD) : SS := (sRet (sC (.bl true)))
def pz (c : Nat → FnD) : SS := (sSeq (pz_0 c) (sSeq (pz_1 c) (sSeq (pz_2 c) (sSeq (pz_3 c) (sSeq (pz_4 c) (sSeq (pz_5 c) (sSeq (pz_6 c) (pz_7 c))))))))
theorem pz_eq (c : Nat → FnD) : L.m_15 c = pz c := rfl
theorem fMinA_ints {o : Bool} {x : Int} {xs : List Int} : fMinA [.lst o ((x :: xs).map D.int)] = some (.int (minI x xs)) := by
  have h : lstInts (.lst o ((x :: xs).map D.int)) = some (x :: xs) := lstInts_ints _
  simp only [fMinA, fOrL, fI2, fMin, h, Option.orElse_none, Option.orElse_some, Option.orElse]
theorem fNe_OD {a : Option Int} : fNe (OD a) (OD a) = some (.bl false) := by
  cases a with
  | none =>
    show fNe .non .non = some (.bl false)
    unfold fNe
    rw [okEq_of (lay_non (n := 0))]
    simp [D.py, PyData.eqv]
  | some x =>
    simp only [OD, fNe_int]
    simp
theorem fNe_ref : fNe (.str "Refused") (.str "Refused") = some (.bl false) := by
  have h : okEq (.str "Refused") = true := by decide +kernel
  unfold fNe
  rw [h]
  simp [D.py, PyData.eqv]
theorem fLRg_nat {n : Nat} (h : n ≤ 900) : fLRg (.int n) = some (.lst true (rngD 0 n)) := by
  unfold fLRg
  simp only []
  rw [if_pos (by omega)]
  simp
def TLx (o : Bool) (t : Tl) : D := .lst o (t.map OD)
section
variable {n : Nat} (h0 : 0 < n) (hn : n ≤ 900) {W : List Wi} (hW : ∀ w ∈ W, okW n w) (hl : W.length ≤ 900) [Decidable (Fit W n)]
include h0 hn hW hl
theorem t5b1 {i : Nat} (hi : i < n) (x0 x1 x7 x8 x9 x10 x11 : Option D) : ∃ y7 y8, pz_5b_1 (L.cl 19) [x0, x1, some (.int n), some (WT W), some (.bl (decide (Fit W n))), some (.int i), some (lstD W (n + 1) (tl0 n [(i : Int)])), x7, x8, x9, x10, x11, none, none, none, none, none, none, none] =
    .nx [x0, x1, some (.int n), some (WT W), some (.bl (decide (Fit W n))), some (.int i), some (lstD W (n + 1) (tl0 n [(i : Int)])), y7, y8, x9, x10, x11, none, none, none, none, none, none, none] := by
  have hW' : ∀ w ∈ W, w.1 < n ∧ w.2.1 < n := fun w hw => ⟨(hW w hw).1, (hW w hw).2.1⟩
  have hr : fRg1 [.int (n : Int)] = some (rngD 0 n) := fRg1_nat (by omega)
  have hb : pz_5b_1 (L.cl 19) [x0, x1, some (.int n), some (WT W), some (.bl (decide (Fit W n))), some (.int i), some (lstD W (n + 1) (tl0 n [(i : Int)])), x7, x8, x9, x10, x11, none, none, none, none, none, none, none] = loop (tgName 7) (pz_5b_1b (L.cl 19)) (rngD 0 n) [x0, x1, some (.int n), some (WT W), some (.bl (decide (Fit W n))), some (.int i), some (lstD W (n + 1) (tl0 n [(i : Int)])), x7, x8, x9, x10, x11, none, none, none, none, none, none, none] := by
    simp? only [pz_5b_1, hr]
  rw [hb]
  generalize hz : loop (tgName 7) (pz_5b_1b (L.cl 19)) (rngD 0 n) _ = z
  obtain ⟨e', rfl, y7, y8, rfl⟩ := wloopR hz (fun q e => ∃ y7 y8, e = [x0, x1, some (.int n), some (WT W), some (.bl (decide (Fit W n))), some (.int i), some (lstD W (n + 1) (tl0 n [(i : Int)])), y7, y8, x9, x10, x11, none, none, none, none, none, none, none]) ⟨_, _, rfl⟩ (by
    rintro j hj e ⟨y7, y8, rfl⟩
    have es := e_law_span 15 n hn hW' hi hj
    by_cases q : Fit W n
    · have fl := q.lst h0 hW' (tl0_len n [(i : Int)])
      have ld : lstD W (n + 1) (tl0 n [(i : Int)]) = TL (pk W n (tl0 n [(i : Int)])) := by unfold lstD; rw [fl]
      rw [ld]
      have a := at_OD (t := pk W n (tl0 n [(i : Int)])) (i := j) (by rw [pk_len, tl0_len]; exact hj)
      simp only [q, if_true] at es
      cases qa : at_ (pk W n (tl0 n [(i : Int)])) j with
      | none =>
        rw [qa] at a es
        have ne := fNe_OD (a := none)
        simp only [OD] at a es ne
        dsimp? only [pz_5b_1b, pz_5b_1b_0, pz_5b_1b_1, WT_fz, sTru, truD, fIx, TL, a, es, q, ODs_fz, ne, Int.zero_add]
        exact ⟨_, _, rfl⟩
      | some x =>
        rw [qa] at a es
        simp only [OD] at a es
        dsimp? only [pz_5b_1b, pz_5b_1b_0, pz_5b_1b_1, WT_fz, sTru, truD, fIx, TL, a, es, q, ODs_fz, Int.zero_add, c10, L.m_10, L.kp_10]
        exact ⟨_, _, rfl⟩
    · simp only [q, if_false] at es
      dsimp? only [pz_5b_1b, pz_5b_1b_0, pz_5b_1b_1, WT_fz, sTru, truD, es, q, fNe_ref, Int.zero_add]
      exact ⟨_, _, rfl⟩)
  exact ⟨_, _, rfl⟩
end
end LM
set_option Elab.async false
set_option linter.all false
set_option maxRecDepth 100000
set_option maxHeartbeats 4000000
namespace LM
open PySem PySem.Spec L2 PV BF
theorem p107 : powOk 10 7 = true := by decide +kernel
theorem p109 : powOk 10 9 = true := by decide +kernel
theorem v107 : (10 : Int) ^ (7 : Int).toNat = 10000000 := by decide +kernel
theorem v109 : (10 : Int) ^ (9 : Int).toNat = 1000000000 := by decide +kernel
theorem sumOD {u : Tl} {n p : Nat} (hu : u.length = n) (hp : p < n) (ha : ∀ i, i < n → ∃ x, at_ u i = some x) : atI (u.map OD) (p : Int) = some (.int (pot u p)) := by
  rw [at_OD (by omega)]
  obtain ⟨x, hx⟩ := ha p hp
  unfold pot
  rw [hx]; rfl
def lowS : SE := sLc (iOf (sVar 6) isSeq) (tgName 14) sYes (sIfE (sB (sTwo (oVar 14) (oTmp (sC .non)) fIs)) (sC (.int 0)) (sVar 14)) [14]
def rowS : SE := sLc (aTmps (sCons (oTmp (sVar 2)) sNil) fRg1) (tgName 18) sYes (sIfE (sB (sTwo (oTmp (sTwo (oVar 6) (oVar 18) fIx)) (oTmp (sC .non)) fIs)) (sTwo (oTmp (sTwo (oVar 10) (oVar 18) fIx)) (oTmp (sTwo (oTmp (sC (.int 10))) (oTmp (sC (.int 9))) fPow)) fAdd) (sTwo (oVar 6) (oVar 18) fIx)) [18]
def minS : SE := sApp (sCons (oVar 9) sNil) fMinA
theorem pz_5b_2_eq (c : Nat → FnD) : pz_5b_2 c = (sIf (sTru (oVar 4)) (sSeq (sSet 9 (lowS)) (sSeq (sIf (sB (sTwo (oTmp (minS)) (oTmp (sOne (oTmp (sTwo (oTmp (sC (.int 10))) (oTmp (sC (.int 7))) fPow)) fNeg)) fLt)) (sRet (sC (.bl false))) sSkip) (sSeq (sSet 10 (sCall 2 (c 2) (sCons (oVar 2) (sCons (oVar 3) sNil)))) (sSeq (sSet 11 (sApp (sCons (oTmp (rowS)) sNil) fTup)) (sIf (sB (sTwo (oTmp (sCall 2 (c 0) (sCons (oVar 3) (sCons (oVar 11) sNil)))) (oTmp (sC (.bl true))) fIsnt)) (sRet (sC (.bl false))) sSkip))))) sSkip) := rfl
section
variable {n : Nat} (h0 : 0 < n) (hn : n ≤ 900) {W : List Wi} (hW : ∀ w ∈ W, okW n w) (hl : W.length ≤ 900) [Decidable (Fit W n)]
include h0 hn hW hl
theorem t5b2 {i : Nat} (hi : i < n) (x0 x1 x7 x8 x9 x10 x11 : Option D) : ∃ y6 y9 y10 y11, pz_5b_2 (L.cl 19) [x0, x1, some (.int n), some (WT W), some (.bl (decide (Fit W n))), some (.int i), some (lstD W (n + 1) (tl0 n [(i : Int)])), x7, x8, x9, x10, x11, none, none, none, none, none, none, none] =
    .nx [x0, x1, some (.int n), some (WT W), some (.bl (decide (Fit W n))), some (.int i), y6, x7, x8, y9, y10, y11, none, none, none, none, none, none, none] := by
  have hW' : ∀ w ∈ W, w.1 < n ∧ w.2.1 < n := fun w hw => ⟨(hW w hw).1, (hW w hw).2.1⟩
  by_cases q : Fit W n
  · have fl := q.lst h0 hW' (tl0_len n [(i : Int)])
    have ld : lstD W (n + 1) (tl0 n [(i : Int)]) = TL (pk W n (tl0 n [(i : Int)])) := by unfold lstD; rw [fl]
    rw [ld]
    have hp := q.pot hW'
    have bv : ∀ j y, at_ (pk W n (tl0 n [(i : Int)])) j = some y → -16 * (n : Int) ≤ y ∧ y ≤ 14 * (n : Int) := fun j y hy => bnd hp hW (tl0_len _ _) (fun _ _ h => tl0_zero h) hy
    have bu : ∀ j y, at_ (pk W n (z0 n)) j = some y → -16 * (n : Int) ≤ y ∧ y ≤ 14 * (n : Int) := fun j y hy => bnd hp hW (z0_len _) (fun _ _ h => z0_zero h) hy
    have sv := q.stay h0 hW' (tl0_len n [(i : Int)])
    have su := q.stay h0 hW' (z0_len n)
    have hvl : (pk W n (tl0 n [(i : Int)])).length = n := by rw [pk_len, tl0_len]
    have hul : (pk W n (z0 n)).length = n := by rw [pk_len, z0_len]
    have ha : ∀ i, i < n → ∃ x, at_ (pk W n (z0 n)) i = some x := fun i hi => by obtain ⟨x, hx, _⟩ := pk_some (W := W) (k := n) hi; exact ⟨x, hx⟩
    have kb := kept54 hn hW hul hvl su sv ha bu bv
    have e1 := e_latest 17 n hn h0 hW'
    have l : ltD W n = .tup ((pk W n (z0 n)).map OD) := if_pos q
    rw [l] at e1
    have ek := e_are_kept 18 (W := W) (vs := (List.range n).map (R54 (pk W n (z0 n)) (pk W n (tl0 n [(i : Int)])))) (by simpa using hW') hl
    rw [kb] at ek
    generalize pk W n (tl0 n [(i : Int)]) = v at *
    generalize pk W n (z0 n) = u at *
    have hr : fRg1 [.int (n : Int)] = some ((List.range n).map fun p : Nat => D.int (p : Int)) := by rw [fRg1_nat (by omega)]; simp [rngD]
    have hlow : lowS [x0, x1, some (.int n), some (WT W), some (.bl true), some (.int i), some (TL v), x7, x8, x9, x10, x11, none, none, none, none, none, none, none] =
        .ok (.lst true ((v.map fun o => o.getD 0).map D.int)) [x0, x1, some (.int n), some (WT W), some (.bl true), some (.int i), some (TLx false v), x7, x8, x9, x10, x11, none, none, none, none, none, none, none] := by
      unfold lowS
      rw [wLcM (xs := v) (G := OD) (fun o => D.int (o.getD 0)) (e1 := [x0, x1, some (.int n), some (WT W), some (.bl true), some (.int i), some (TLx false v), x7, x8, x9, x10, x11, none, none, none, none, none, none, none]) (by simp? only [TL, TLx, ODs_fz, ODs_f]) (fun o ho => by
        cases o with
        | none => simp? only [OD, Option.getD_none]
        | some x => simp? only [OD, Option.getD_some]) (by rw [size_eq]; omega)]
      simp? only [List.map_map]
      rfl
    obtain ⟨m, hm, gm⟩ : ∃ m : Int, -10000000 ≤ m ∧ ∀ o, fMinA [.lst o ((v.map fun o => o.getD 0).map D.int)] = some (.int m) := by
      have hx : ∀ x ∈ v.map (fun o => o.getD 0), -10000000 ≤ x := by
        intro x hx
        obtain ⟨o, ho, rfl⟩ := List.mem_map.mp hx
        obtain ⟨j, hj, rfl⟩ := List.getElem_of_mem ho
        cases qj : v[j] with
        | none => simp
        | some y =>
          have := bv j y (by unfold at_; simp [List.getD_eq_getElem?_getD, hj, qj])
          simp only [Option.getD_some]
          omega
      cases hv : v.map (fun o => o.getD 0) with
      | nil =>
        have := congrArg List.length hv
        simp at this
        subst this
        simp at hvl
        omega
      | cons x xs =>
        rw [hv] at hx
        exact ⟨minI x xs, minI_ge xs x (hx _ List.mem_cons_self) (fun y hy => hx y (List.mem_cons_of_mem _ hy)), fun o => fMinA_ints⟩
    have hrow : ∀ x9, rowS [x0, x1, some (.int n), some (WT W), some (.bl true), some (.int i), some (TLx false v), x7, x8, x9, some (.tup (u.map OD)), x11, none, none, none, none, none, none, none] =
        .ok (.lst true (((List.range n).map (R54 u v)).map D.int)) [x0, x1, some (.int n), some (WT W), some (.bl true), some (.int i), some (TLx false v), x7, x8, x9, some (.tup (u.map OD)), x11, none, none, none, none, none, none, none] := by
      intro x9
      unfold rowS
      rw [wLcM (xs := List.range n) (G := fun p : Nat => D.int (p : Int)) (fun p => D.int (R54 u v p)) (e1 := [x0, x1, some (.int n), some (WT W), some (.bl true), some (.int i), some (TLx false v), x7, x8, x9, some (.tup (u.map OD)), x11, none, none, none, none, none, none, none]) (by simp? only [hr]) (fun p hp => by
        have hp := List.mem_range.mp hp
        have a1 := at_OD (t := v) (i := p) (by omega)
        have a2 := sumOD hul hp ha
        unfold R54
        cases qp : at_ v p with
        | none =>
          rw [qp] at a1
          simp only [OD] at a1
          dsimp? only [TLx, fIx, a1, a2, fPow, p109, v109, ODs_fz]
        | some y =>
          rw [qp] at a1
          simp only [OD] at a1
          dsimp? only [TLx, fIx, a1, a2, fPow, p109, v109, ODs_fz]) (by rw [size_eq]; simp; omega)]
      simp? only [List.map_map]
      rfl
    have hsz : ((((List.range n).map (R54 u v)).map D.int).length ≤ sizeLine) = True := eq_true (by rw [size_eq]; simp; omega)
    have gm1 := gm true
    have gm2 := gm false
    generalize (v.map fun o => o.getD 0).map D.int = lows at hlow gm1 gm2
    have hmin : ∀ e, e = [x0, x1, some (.int n), some (WT W), some (.bl true), some (.int i), some (TLx false v), x7, x8, some (.lst true lows), x10, x11, none, none, none, none, none, none, none] → minS e = .ok (.int m) e := by
      intro e he
      subst he
      unfold minS sApp
      simp only [sCons, oVar, sNil, List.getElem?_cons_succ, List.getElem?_cons_zero, bind_ok, rsvs, rsv, D.fz, Option.map_some, Option.bind_some, gm1]
    have hm' : (m < -10000000) = False := eq_false (by omega)
    have s1 : pz_5b_2 (L.cl 19) [x0, x1, some (.int n), some (WT W), some (.bl true), some (.int i), some (TL v), x7, x8, x9, x10, x11, none, none, none, none, none, none, none] = .nx [x0, x1, some (.int n), some (WT W), some (.bl true), some (.int i), some (TLx false v), x7, x8, some (.lst true lows), some (.tup (u.map OD)), some (.tup (((List.range n).map (R54 u v)).map D.int)), none, none, none, none, none, none, none] := by
      have k1 : ∀ e, sTru (oVar 4) [x0, x1, some (.int n), some (WT W), some (.bl true), some (.int i), some (TL v), x7, x8, x9, x10, x11, none, none, none, none, none, none, none] = .ok true e → True := fun _ _ => trivial
      simp? only [pz_5b_2_eq, sTru, truD, WT_fz, hlow, hmin, fPow, p107, v107, hm', e1, ODs_fz, ODs_f, hrow, hsz, ek]
    have dq : decide (Fit W n) = true := decide_eq_true q
    rw [dq, s1]
    exact ⟨_, _, _, _, rfl⟩
  · have dq : decide (Fit W n) = false := decide_eq_false q
    rw [dq]
    simp? only [pz_5b_2, sTru, truD]
    exact ⟨_, _, _, _, rfl⟩
theorem t5 (x0 x1 x5 x6 x7 x8 x9 x10 x11 : Option D) : ∃ y5 y6 y7 y8 y9 y10 y11, pz_5 (L.cl 19) [x0, x1, some (.int n), some (WT W), some (.bl (decide (Fit W n))), x5, x6, x7, x8, x9, x10, x11, none, none, none, none, none, none, none] =
    .nx [x0, x1, some (.int n), some (WT W), some (.bl (decide (Fit W n))), y5, y6, y7, y8, y9, y10, y11, none, none, none, none, none, none, none] := by
  have hW' : ∀ w ∈ W, w.1 < n ∧ w.2.1 < n := fun w hw => ⟨(hW w hw).1, (hW w hw).2.1⟩
  have hr : fRg1 [.int (n : Int)] = some (rngD 0 n) := fRg1_nat (by omega)
  have hb : pz_5 (L.cl 19) [x0, x1, some (.int n), some (WT W), some (.bl (decide (Fit W n))), x5, x6, x7, x8, x9, x10, x11, none, none, none, none, none, none, none] = loop (tgName 5) (pz_5b (L.cl 19)) (rngD 0 n) [x0, x1, some (.int n), some (WT W), some (.bl (decide (Fit W n))), x5, x6, x7, x8, x9, x10, x11, none, none, none, none, none, none, none] := by
    simp? only [pz_5, hr]
  rw [hb]
  generalize hz : loop (tgName 5) (pz_5b (L.cl 19)) (rngD 0 n) _ = z
  obtain ⟨e', rfl, y5, y6, y7, y8, y9, y10, y11, rfl⟩ := wloopR hz (fun q e => ∃ y5 y6 y7 y8 y9 y10 y11, e = [x0, x1, some (.int n), some (WT W), some (.bl (decide (Fit W n))), y5, y6, y7, y8, y9, y10, y11, none, none, none, none, none, none, none]) ⟨_, _, _, _, _, _, _, rfl⟩ (by
    rintro i hi e ⟨y5, y6, y7, y8, y9, y10, y11, rfl⟩
    have el := e__law_least 18 n hn hW' true [(i : Int)]
    obtain ⟨z7, z8, e1⟩ := t5b1 h0 hn hW hl hi x0 x1 y7 y8 y9 y10 y11
    obtain ⟨z6, z9, z10, z11, e2⟩ := t5b2 h0 hn hW hl hi x0 x1 z7 z8 y9 y10 y11
    simp only [List.map_cons, List.map_nil] at el
    have e0 : pz_5b_0 (L.cl 19) [x0, x1, some (.int n), some (WT W), some (.bl (decide (Fit W n))), some (.int i), y6, y7, y8, y9, y10, y11, none, none, none, none, none, none, none] = .nx [x0, x1, some (.int n), some (WT W), some (.bl (decide (Fit W n))), some (.int i), some (lstD W (n + 1) (tl0 n [(i : Int)])), y7, y8, y9, y10, y11, none, none, none, none, none, none, none] := by
      simp? only [pz_5b_0, WT_fz, el]
    simp only [tgName, List.length_cons, List.length_nil, Nat.reduceAdd, Nat.reduceLT, if_true, List.set_cons_succ, List.set_cons_zero, gwp_some, Int.zero_add]
    unfold pz_5b sSeq
    rw [e0]
    simp only [thn_nx]
    rw [e1]
    simp only [thn_nx]
    rw [e2]
    exact ⟨_, _, _, _, _, _, _, rfl⟩)
  exact ⟨_, _, _, _, _, _, _, rfl⟩
end
end LM
set_option Elab.async false
set_option linter.all false
set_option maxRecDepth 100000
set_option maxHeartbeats 4000000
namespace LM
open PySem PySem.Spec L2 PV BF
theorem thn_assoc (p : RS) (s t : SS) : (p.thn s).thn t = p.thn (fun e => (s e).thn t) := by cases p <;> rfl
section
variable {n : Nat} (h0 : 0 < n) (hn : n ≤ 900) {W : List Wi} (hW : ∀ w ∈ W, okW n w) (hl : W.length ≤ 900)
include h0 hn hW hl
theorem t6b {m : Nat} (hm : m < W.length) (x0 x1 x4 x5 x6 x7 x8 x9 x10 x11 x13 x14 x15 x16 x17 : Option D) : ∃ y6 y13 y14 y15 y16 y17, pz_6b (L.cl 19) [x0, x1, some (.int n), some (WT W), x4, x5, x6, x7, x8, x9, x10, x11, some (.int m), x13, x14, x15, x16, x17, none] =
    .nx [x0, x1, some (.int n), some (WT W), x4, x5, y6, x7, x8, x9, x10, x11, some (.int m), y13, y14, y15, y16, y17, none] := by
  have hW' : ∀ w ∈ W, w.1 < n ∧ w.2.1 < n := fun w hw => ⟨(hW w hw).1, (hW w hw).2.1⟩
  have hO : ∀ w ∈ oth W m, w.1 < n ∧ w.2.1 < n := fun w hw => hW' w (oth_mem hw)
  have hw := hW' W[m] (List.getElem_mem _)
  classical
  have c := catT_W (A := W.take m) (B := W.drop (m + 1)) (by simp; omega)
  have b0 : pz_6b_0 (L.cl 19) [x0, x1, some (.int n), some (WT W), x4, x5, x6, x7, x8, x9, x10, x11, some (.int m), x13, x14, x15, x16, x17, none] = .nx [x0, x1, some (.int n), some (WT W), x4, x5, x6, x7, x8, x9, x10, x11, some (.int m), some (WT (oth W m)), x14, x15, x16, x17, none] := by
    have g1 : sSl (oVar 3) sNoP (sSomP (sVar 12)) [x0, x1, some (.int n), some (WT W), x4, x5, x6, x7, x8, x9, x10, x11, some (.int m), x13, x14, x15, x16, x17, none] = .ok (.tup ((W.take m).map WD)) [x0, x1, some (.int n), some (WT W), x4, x5, x6, x7, x8, x9, x10, x11, some (.int m), x13, x14, x15, x16, x17, none] := by
      simp? only [WT, cutTM]
    have g2 : sSl (oVar 3) (sSomP (sTwo (oVar 12) (oTmp (sC (.int 1))) fAdd)) sNoP [x0, x1, some (.int n), some (WT W), x4, x5, x6, x7, x8, x9, x10, x11, some (.int m), x13, x14, x15, x16, x17, none] = .ok (.tup ((W.drop (m + 1)).map WD)) [x0, x1, some (.int n), some (WT W), x4, x5, x6, x7, x8, x9, x10, x11, some (.int m), x13, x14, x15, x16, x17, none] := by
      simp? only [WT, cutFM]
    unfold pz_6b_0
    simp only [sSet, sTwo, oTmp, g1, g2, bind_ok, rsv, D.fz, WDs_f, c, toS_ok, put, List.length_cons, List.length_nil, Nat.reduceAdd, Nat.reduceLT, if_true, List.set_cons_succ, List.set_cons_zero]
    rfl
  have ix : fIx (WT W) (.int (m : Int)) = some (.tup [.int W[m].1, .int W[m].2.1, .int W[m].2.2]) := by
    simp only [WT, fIx, at_WD hm]
    rfl
  have b1 : ∀ x13, pz_6b_1 (L.cl 19) [x0, x1, some (.int n), some (WT W), x4, x5, x6, x7, x8, x9, x10, x11, some (.int m), x13, x14, x15, x16, x17, none] = .nx [x0, x1, some (.int n), some (WT W), x4, x5, x6, x7, x8, x9, x10, x11, some (.int m), x13, some (.int W[m].1), some (.int W[m].2.1), some (.int W[m].2.2), x17, none] := by
    intro x13
    dsimp? only [pz_6b_1, sAsg, ix]
  have el := e__law_least 18 n hn hO true ((List.range n).map fun p : Nat => (p : Int))
  rw [tl0_range] at el
  have er : ((List.range n).map fun p : Nat => (p : Int)).map D.int = rngD 0 n := by
    unfold rngD; rw [List.map_map]; congr 1; funext p; simp
  rw [er] at el
  have el2 := e__law_least 18 n hn hO true [(W[m].1 : Int)]
  simp only [List.map_cons, List.map_nil] at el2
  have ei := e_idle 16 n hn hl hW' hm
  unfold idl at ei
  have lr := fLRg_nat hn
  have fz1 := WT_fz W
  have fz2 := WT_fz (oth W m)
  unfold pz_6b sSeq
  rw [b0]
  simp only [thn_nx]
  rw [b1]
  simp only [thn_nx]
  by_cases q : Fit (oth W m) n
  · have fl := q.lst h0 hO (z0_len n)
    have fl2 := q.lst h0 hO (tl0_len n [(W[m].1 : Int)])
    have ld : lstD (oth W m) (n + 1) (z0 n) = TL (pk (oth W m) n (z0 n)) := by unfold lstD; rw [fl]
    have ld2 : lstD (oth W m) (n + 1) (tl0 n [(W[m].1 : Int)]) = TL (pk (oth W m) n (tl0 n [(W[m].1 : Int)])) := by unfold lstD; rw [fl2]
    rw [ld] at el
    rw [ld2] at el2
    have a := at_OD (t := pk (oth W m) n (tl0 n [(W[m].1 : Int)])) (i := W[m].2.1) (by rw [pk_len, tl0_len]; exact hw.2)
    simp only [q, if_true] at ei
    cases qa : at_ (pk (oth W m) n (tl0 n [(W[m].1 : Int)])) W[m].2.1 with
    | none =>
      rw [qa] at a ei
      simp only [OD] at a ei
      dsimp? only [pz_6b_2, pz_6b_3, pz_6b_4, fz1, fz2, sTru, TL, fIx, lr, el, el2, a, ei, ODs_fz, ODs_f, c11, L.m_11, L.kp_11, truD]
      exact ⟨_, _, _, _, _, _, rfl⟩
    | some x =>
      rw [qa] at a ei
      simp only [OD] at a ei
      by_cases hx : x ≤ W[m].2.2
      · have dx : decide (x ≤ W[m].2.2) = true := decide_eq_true hx
        rw [dx] at ei
        dsimp? only [pz_6b_2, pz_6b_3, pz_6b_4, fz1, fz2, sTru, TL, fIx, lr, el, el2, a, ei, ODs_fz, ODs_f, c11, L.m_11, L.kp_11, eq_true hx, truD]
        exact ⟨_, _, _, _, _, _, rfl⟩
      · have dx : decide (x ≤ W[m].2.2) = false := decide_eq_false hx
        rw [dx] at ei
        dsimp? only [pz_6b_2, pz_6b_3, pz_6b_4, fz1, fz2, sTru, TL, fIx, lr, el, el2, a, ei, ODs_fz, ODs_f, c11, L.m_11, L.kp_11, eq_false hx, truD]
        exact ⟨_, _, _, _, _, _, rfl⟩
  · have ld : lstD (oth W m) (n + 1) (z0 n) = .non := by unfold lstD; rw [noFit_lst q h0 hO]
    rw [ld] at el
    simp only [q, if_false] at ei
    dsimp? only [pz_6b_2, pz_6b_3, pz_6b_4, fz1, fz2, sTru, lr, el, ei, c11, L.m_11, L.kp_11, truD]
    exact ⟨_, _, _, _, _, _, rfl⟩
theorem t6 (x0 x1 x4 x5 x6 x7 x8 x9 x10 x11 : Option D) : ∃ e', pz_6 (L.cl 19) [x0, x1, some (.int n), some (WT W), x4, x5, x6, x7, x8, x9, x10, x11, none, none, none, none, none, none, none] = .nx e' := by
  have hr : fRg1 [.int (W.length : Int)] = some (rngD 0 W.length) := fRg1_nat (by omega)
  have hb : pz_6 (L.cl 19) [x0, x1, some (.int n), some (WT W), x4, x5, x6, x7, x8, x9, x10, x11, none, none, none, none, none, none, none] = loop (tgName 12) (pz_6b (L.cl 19)) (rngD 0 W.length) [x0, x1, some (.int n), some (WT W), x4, x5, x6, x7, x8, x9, x10, x11, none, none, none, none, none, none, none] := by
    simp? only [pz_6, WT, List.length_map, hr]
  rw [hb]
  generalize hz : loop (tgName 12) (pz_6b (L.cl 19)) (rngD 0 W.length) _ = z
  obtain ⟨e', rfl, y6, y12, y13, y14, y15, y16, y17, rfl⟩ := wloopR hz (fun q e => ∃ y6 y12 y13 y14 y15 y16 y17, e = [x0, x1, some (.int n), some (WT W), x4, x5, y6, x7, x8, x9, x10, x11, y12, y13, y14, y15, y16, y17, none]) ⟨_, _, _, _, _, _, _, rfl⟩ (by
    rintro m hm e ⟨y6, y12, y13, y14, y15, y16, y17, rfl⟩
    obtain ⟨z6, z13, z14, z15, z16, z17, e1⟩ := t6b h0 hn hW hl hm x0 x1 x4 x5 y6 x7 x8 x9 x10 x11 y13 y14 y15 y16 y17
    simp only [tgName, List.length_cons, List.length_nil, Nat.reduceAdd, Nat.reduceLT, if_true, List.set_cons_succ, List.set_cons_zero, gwp_some, Int.zero_add]
    rw [e1]
    exact ⟨_, _, _, _, _, _, _, rfl⟩)
  exact ⟨_, rfl⟩
end
theorem pure (ns : List Int) (hn : ns.length ≤ 63) (hb : ∀ z ∈ ns, Builtin.Int.intBits z ≤ 1048576) : ∃ outs, L.cl 20 15 [.scr (ns.map D.int)] = .ok (.bl true) outs := by
  obtain ⟨d0, i0, e0⟩ := e__law_open 18 ns
  obtain ⟨v1, d1, a1, b1, i1, e1⟩ := t_draw 17 i0 (s := 2) (by decide) (by decide)
  obtain ⟨s, hs, ix1⟩ : ∃ s : Int, (s = 3 ∨ s = 7) ∧ ∀ o, fIx (.lst o [.int 3, .int 7]) (.int v1) = some (.int s) := by
    have : v1 = 0 ∨ v1 = 1 := by omega
    rcases this with rfl | rfl
    · exact ⟨3, .inl rfl, fun o => by rfl⟩
    · exact ⟨7, .inr rfl, fun o => by rfl⟩
  obtain ⟨v2, d2, a2, b2, i2, e2⟩ := t_draw 17 i1 (s := s) (by omega) (by omega)
  obtain ⟨v3, d3, a3, b3, i3, e3⟩ := t_draw 17 i2 (s := 2) (by decide) (by decide)
  obtain ⟨mo, hs3, ix3⟩ : ∃ mo : Nat, mo ≤ 16 ∧ ∀ o, fIx (.lst o [.int 4, .int 16]) (.int v3) = some (.int (mo : Int)) := by
    have : v3 = 0 ∨ v3 = 1 := by omega
    rcases this with rfl | rfl
    · exact ⟨4, by decide, fun o => by rfl⟩
    · exact ⟨16, by decide, fun o => by rfl⟩
  obtain ⟨n', hn'⟩ := Int.eq_ofNat_of_zero_le a2
  subst hn'
  obtain ⟨n, hnn⟩ : ∃ n : Nat, n = n' + 2 := ⟨_, rfl⟩
  have hcast : (2 : Int) + (n' : Int) = (n : Int) := by omega
  have h0 : 0 < n := by omega
  have hn9 : n ≤ 900 := by omega
  obtain ⟨W, d4, i4, hl4, hW, e4⟩ := t_wishes 16 n h0 hn9 mo (by omega) i3
  have hl : W.length ≤ 900 := by omega
  have hW' : ∀ w ∈ W, w.1 < n ∧ w.2.1 < n := fun w hw => ⟨(hW w hw).1, (hW w hw).2.1⟩
  have el := e__law_least 18 n hn9 hW' true ((List.range n).map fun p : Nat => (p : Int))
  rw [tl0_range] at el
  have er : ((List.range n).map fun p : Nat => (p : Int)).map D.int = rngD 0 n := by
    unfold rngD; rw [List.map_map]; congr 1; funext p; simp
  rw [er] at el
  have lt := e_latest 17 n hn9 h0 hW'
  have lr := fLRg_nat hn9
  have fz := WT_fz W
  have n0 := i0.nf
  have n1 := i1.nf
  have n2 := i2.nf
  have n3 := i3.nf
  classical
  have q1 : pz_1 (L.cl 19) [some (.scr (ns.map D.int)), some d0, none, none, none, none, none, none, none, none, none, none, none, none, none, none, none, none, none] = .nx [some (.scr (ns.map D.int)), some d2, some (.int (n : Int)), none, none, none, none, none, none, none, none, none, none, none, none, none, none, none, none] := by
    dsimp? only [pz_1, n0, n1, e1, ix1, e2, hcast]
  have q2 : pz_2 (L.cl 19) [some (.scr (ns.map D.int)), some d2, some (.int (n : Int)), none, none, none, none, none, none, none, none, none, none, none, none, none, none, none, none] = .nx [some (.scr (ns.map D.int)), some d4, some (.int (n : Int)), some (WT W), none, none, none, none, none, none, none, none, none, none, none, none, none, none, none] := by
    dsimp? only [pz_2, n2, n3, e3, ix3, e4]
  have q34 : (pz_3 (L.cl 19) [some (.scr (ns.map D.int)), some d4, some (.int (n : Int)), some (WT W), none, none, none, none, none, none, none, none, none, none, none, none, none, none, none]).thn (pz_4 (L.cl 19)) = .nx [some (.scr (ns.map D.int)), some d4, some (.int (n : Int)), some (WT W), some (.bl (decide (Fit W n))), none, none, none, none, none, none, none, none, none, none, none, none, none, none] := by
    by_cases q : Fit W n
    · have fl := q.lst h0 hW' (z0_len n)
      have ld : lstD W (n + 1) (z0 n) = TL (pk W n (z0 n)) := by unfold lstD; rw [fl]
      have l : ltD W n = .tup ((pk W n (z0 n)).map OD) := if_pos q
      have dq : decide (Fit W n) = true := decide_eq_true q
      rw [ld] at el
      rw [l] at lt
      rw [dq]
      dsimp? only [pz_3, pz_4, TL, fz, lr, el, lt]
    · have ld : lstD W (n + 1) (z0 n) = .non := by unfold lstD; rw [noFit_lst q h0 hW']
      have l : ltD W n = .non := if_neg q
      have dq : decide (Fit W n) = false := decide_eq_false q
      rw [ld] at el
      rw [l] at lt
      rw [dq]
      dsimp? only [pz_3, pz_4, fz, lr, el, lt]
  obtain ⟨y5, y6, y7, y8, y9, y10, y11, q5⟩ := t5 h0 hn9 hW hl (some (.scr (ns.map D.int))) (some d4) none none none none none none none
  obtain ⟨ef, q6⟩ := t6 h0 hn9 hW hl (some (.scr (ns.map D.int))) (some d4) (some (.bl (decide (Fit W n)))) y5 y6 y7 y8 y9 y10 y11
  have q0 : pz_0 (L.cl 19) [some (.scr (ns.map D.int)), none, none, none, none, none, none, none, none, none, none, none, none, none, none, none, none, none, none] = .nx [some (.scr (ns.map D.int)), some d0, none, none, none, none, none, none, none, none, none, none, none, none, none, none, none, none, none] := by
    simp? only [pz_0, e0]
  simp only [c15, pz_eq, L.kp_15, mkF, pz, List.length_cons, List.length_nil, reduceIte, List.map_cons, List.map_nil, Nat.reduceAdd, Nat.reduceSub, List.replicate_succ, List.replicate_zero, List.cons_append, List.nil_append]
  unfold sSeq
  rw [q0]
  try simp only [thn_nx, sSeq]
  rw [q1]
  try simp only [thn_nx, sSeq]
  rw [q2]
  try simp only [thn_nx, sSeq]
  rw [← thn_assoc, q34]
  try simp only [thn_nx, sSeq]
  rw [q5]
  try simp only [thn_nx, sSeq]
  rw [q6]
  simp? only [thn_nx, pz_7]
  exact ⟨_, rfl⟩
end LM
open PySem PySem.W PySem.Calls PyProof.Rows
set_option maxRecDepth 100000 in
set_option maxHeartbeats 0 in
theorem PySem.Challenge.cw_staysbelow_k54_spans_and_idle_wishes_holds : PySem.Challenge.rw_staysbelow_k54_spans_and_idle_wishes.Holds := by
  w_on; o_law
  refine HandSHeadRun.head_any (r := OpenLaw.row PySem.Challenge.rw_staysbelow_k54_spans_and_idle_wishes) (q := view (OpenLaw.row PySem.Challenge.rw_staysbelow_k54_spans_and_idle_wishes).prog [24]) (H := L.hk) (ob := L.ob) (M := 4000) (loose := L.loose) (d := HandSHeadRun.topDef (OpenLaw.row PySem.Challenge.rw_staysbelow_k54_spans_and_idle_wishes).prog 24) (kwd := []) L.ob_eq
    (by kernel_rfl) (fun s => by kernel_rfl) L.run (by kernel_rfl) (by kernel_rfl) (by kernel_rfl) (by rfl) (by first | assumption | decide +kernel) (by decide +kernel) ⟨rfl, rfl, rfl, rfl, rfl, by decide +kernel⟩ ?hw ?hc
  case hw => w_witness2
  case hc =>
    refine LamX.walk_ofTsE (l := PySem.Challenge.rw_staysbelow_k54_spans_and_idle_wishes) (n := 63) (k := 2 * 20) (x := "script") (CX := fun w => L2N.CX PySem.Challenge.rw_staysbelow_k54_spans_and_idle_wishes.prog w) rfl (by decide) (by kernel_rfl) ⟨rfl, by decide, by decide⟩ ?F (fun _ _ _ _ _ z => PV.noCX z)
    intro w mg fa h Y G hmg0
    obtain ⟨K, KX, c⟩ := Y
    have hmg : mg ("law" : PySem.Str) = some (.ref fa) := by
      have e : (HandSHeadRun.topDef (OpenLaw.row PySem.Challenge.rw_staysbelow_k54_spans_and_idle_wishes).prog 24).name = ("law" : PySem.Str) := by kernel_rfl
      rw [← e]
      exact hmg0
    exact ⟨K, KX, L.law_done KX G hmg c LM.pure⟩
