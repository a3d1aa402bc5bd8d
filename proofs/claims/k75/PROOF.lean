import PyProof.Rows.All
import HandS.ForMost
import HandS.TupAny
import HandS.TupMul
import HandS.Deep
import HandS.Style
import HandS.Star
import HandS.Wide
import HandS.IsInst
import HandS.Flow
import HandS.Zip
import HandS.Conv
import HandS.Rev
import KE.SortData
import KE.DataMinMax
import KE.DataFind
import PyProof.ReprRoads
import KE.GoesEnum
import KE.KRevSl
import PyProof.NeKinds
import PySem.Challenge.RW_lotsoflots_k75_ring_papers
set_option Elab.async false
set_option linter.all false
set_option maxRecDepth 100000
set_option maxHeartbeats 4000000
/-! Pz: pure values over the hand layer: what an expression evaluates to, as a Lean function. -/
namespace Pz
open PySem PySem.Spec PyProof.Rows L2

/-! ### the monad -/
structure Src where
  cells : List Int
  left : Int
  mixed : Int
  turn : Int
abbrev M (α : Type) := Src → Option (α × Src)
def pureM {α : Type} (a : α) : M α := fun s => some (a, s)
def bindM {α β : Type} (m : M α) (f : α → M β) : M β := fun s => match m s with
  | some (a, s') => f a s'
  | none => none
def failM {α : Type} : M α := fun _ => none
def optM {α : Type} (o : Option α) : M α := fun s => match o with
  | some a => some (a, s)
  | none => none
@[simp] theorem bind_pure {α β : Type} (a : α) (f : α → M β) : bindM (pureM a) f = f a := rfl
@[simp] theorem bind_ret {α : Type} (m : M α) : bindM m (fun a => pureM a) = m := by
  funext s; unfold bindM; cases h : m s with
  | none => rfl
  | some p => rfl
@[simp] theorem bind_ret' {α : Type} (m : M α) : bindM m pureM = m := bind_ret m
@[simp] theorem bind_assoc {α β γ : Type} (m : M α) (f : α → M β) (g : β → M γ) : bindM (bindM m f) g = bindM m fun a => bindM (f a) g := by
  funext s; unfold bindM; cases h : m s with
  | none => rfl
  | some p => rfl
@[simp] theorem optM_some {α : Type} (a : α) : optM (some a) = pureM a := rfl
@[simp] theorem optM_none {α : Type} : optM (none : Option α) = failM := rfl
@[simp] theorem bind_fail {α β : Type} (f : α → M β) : bindM failM f = failM := rfl
theorem bind_some {α β : Type} {m : M α} {f : α → M β} {s t : Src} {b : β} (h : bindM m f s = some (b, t)) : ∃ a u, m s = some (a, u) ∧ f a u = some (b, t) := by
  unfold bindM at h
  cases e : m s with
  | none => rw [e] at h; cases h
  | some p => rw [e] at h; exact ⟨p.1, p.2, rfl, h⟩
theorem pure_some {α : Type} {a b : α} {s t : Src} (h : pureM a s = some (b, t)) : a = b ∧ s = t := by cases h; exact ⟨rfl, rfl⟩
theorem optM_inv {α : Type} {o : Option α} {b : α} {s t : Src} (h : optM o s = some (b, t)) : o = some b ∧ s = t := by
  cases o with
  | none => cases h
  | some a => cases h; exact ⟨rfl, rfl⟩
def mapM' {α β : Type} (f : α → M β) : List α → M (List β)
  | [] => pureM []
  | x :: xs => bindM (f x) fun y => bindM (mapM' f xs) fun ys => pureM (y :: ys)
def filterMapM' {α β : Type} (f : α → M (Option β)) : List α → M (List β)
  | [] => pureM []
  | x :: xs => bindM (f x) fun y => bindM (filterMapM' f xs) fun ys => pureM (match y with | some z => z :: ys | none => ys)
def forM' {β ι : Type} (f : β → ι → M β) : List ι → β → M β
  | [], b => pureM b
  | x :: xs, b => bindM (f b x) fun b' => forM' f xs b'
/-- the end of a block: it goes on, or it returns -/
inductive Out (ρ β : Type) where
  | nx (b : β) | rt (r : ρ)
def forO {ρ β ι : Type} (f : β → ι → M (Out ρ β)) : List ι → β → M (Out ρ β)
  | [], b => pureM (.nx b)
  | x :: xs, b => bindM (f b x) fun o => match o with
    | .nx b' => forO f xs b'
    | .rt r => pureM (.rt r)
def whileM {β : Type} (c : β → M Bool) (f : β → M β) : Nat → β → M β
  | 0, _ => failM
  | n + 1, b => bindM (c b) fun k => if k then bindM (f b) fun b' => whileM c f n b' else pureM b

/-! ### values of data in the abstract heap, apart from what is owned -/
abbrev Av := Addr → Prop
mutual
inductive Rp (A : Av) (H : Hp) : V → PyData → Prop
  | non : Rp A H .non .none
  | bl (b : Bool) : Rp A H (.bl b) (.bool b)
  | int (i : Int) : Rp A H (.int i) (.int i)
  | str (x : Str) : Rp A H (.str x) (.str x)
  | lst {a : Addr} {xs : List V} {ds : List PyData} : ¬ A a → H a = some (.lst xs) → RpAll A H xs ds → Rp A H (.ref a) (.list ds)
  | tup {a : Addr} {xs : List V} {ds : List PyData} : ¬ A a → H a = some (.tup xs) → RpAll A H xs ds → Rp A H (.ref a) (.tuple ds)
  | dic {a : Addr} : ¬ A a → H a = some (.dK []) → Rp A H (.ref a) (.dict [])
inductive RpAll (A : Av) (H : Hp) : List V → List PyData → Prop
  | nil : RpAll A H [] []
  | cons {v : V} {vs : List V} {d : PyData} {ds : List PyData} : Rp A H v d → RpAll A H vs ds → RpAll A H (v :: vs) (d :: ds)
end
section
variable {A A' : Av} {H H' : Hp}
mutual
theorem Rp.move (h : ∀ a o, ¬ A a → H a = some o → ¬ A' a ∧ H' a = some o) : ∀ (d : PyData) (v : V), Rp A H v d → Rp A' H' v d
  | .none, _, r => by cases r; exact .non
  | .bool b, _, r => by cases r; exact .bl b
  | .int i, _, r => by cases r; exact .int i
  | .str x, _, r => by cases r; exact .str x
  | .list ds, _, r => by
    cases r with
    | lst h1 h2 h3 => obtain ⟨a1, a2⟩ := h _ _ h1 h2; exact .lst a1 a2 (RpAll.move h ds _ h3)
  | .tuple ds, _, r => by
    cases r with
    | tup h1 h2 h3 => obtain ⟨a1, a2⟩ := h _ _ h1 h2; exact .tup a1 a2 (RpAll.move h ds _ h3)
  | .dict _, _, r => by
    cases r with
    | dic h1 h2 => obtain ⟨a1, a2⟩ := h _ _ h1 h2; exact .dic a1 a2
theorem RpAll.move (h : ∀ a o, ¬ A a → H a = some o → ¬ A' a ∧ H' a = some o) : ∀ (ds : List PyData) (vs : List V), RpAll A H vs ds → RpAll A' H' vs ds
  | [], _, r => by cases r; exact .nil
  | d :: ds, _, r => by
    cases r with
    | cons h1 h2 => exact .cons (Rp.move h d _ h1) (RpAll.move h ds _ h2)
end
theorem RpAll.length : ∀ {vs : List V} {ds : List PyData}, RpAll A H vs ds → vs.length = ds.length
  | _, [], r => by cases r; rfl
  | _, _ :: ds, r => by cases r with | cons _ h => simp [RpAll.length h]
theorem RpAll.append : ∀ {vs ws : List V} {ds es : List PyData}, RpAll A H vs ds → RpAll A H ws es → RpAll A H (vs ++ ws) (ds ++ es)
  | _, _, [], _, r, q => by cases r; exact q
  | _, _, _ :: _, _, r, q => by cases r with | cons h1 h2 => exact .cons h1 (h2.append q)
theorem RpAll.get : ∀ {vs : List V} {ds : List PyData} {i : Nat} {d : PyData}, RpAll A H vs ds → ds[i]? = some d → ∃ v, vs[i]? = some v ∧ Rp A H v d
  | _, [], _, _, _, e => by simp at e
  | _, _ :: _, 0, _, r, e => by cases r with | cons h1 _ => simp at e; subst e; exact ⟨_, rfl, h1⟩
  | _, _ :: _, i + 1, _, r, e => by cases r with | cons _ h2 => simpa using RpAll.get h2 (by simpa using e)
theorem RpAll.getV : ∀ {vs : List V} {ds : List PyData} {i : Nat} {v : V}, RpAll A H vs ds → vs[i]? = some v → ∃ d, ds[i]? = some d ∧ Rp A H v d
  | _, [], _, _, r, e => by cases r; simp at e
  | _, _ :: _, 0, _, r, e => by cases r with | cons h1 _ => simp at e; subst e; exact ⟨_, rfl, h1⟩
  | _, _ :: _, i + 1, _, r, e => by cases r with | cons _ h2 => simpa using RpAll.getV h2 (by simpa using e)
theorem RpAll.take : ∀ {vs : List V} {ds : List PyData} (n : Nat), RpAll A H vs ds → RpAll A H (vs.take n) (ds.take n)
  | _, _, 0, _ => .nil
  | _, [], _ + 1, r => by cases r; exact .nil
  | _, _ :: _, n + 1, r => by cases r with | cons h1 h2 => exact .cons h1 (h2.take n)
theorem RpAll.drop : ∀ {vs : List V} {ds : List PyData} (n : Nat), RpAll A H vs ds → RpAll A H (vs.drop n) (ds.drop n)
  | _, _, 0, r => r
  | _, [], _ + 1, r => by cases r; exact .nil
  | _, _ :: _, n + 1, r => by cases r with | cons h1 h2 => exact h2.drop n
theorem RpAll.reverse : ∀ {vs : List V} {ds : List PyData}, RpAll A H vs ds → RpAll A H vs.reverse ds.reverse
  | _, [], r => by cases r; exact .nil
  | _, _ :: _, r => by cases r with | cons h1 h2 => rw [List.reverse_cons, List.reverse_cons]; exact h2.reverse.append (.cons h1 .nil)
theorem RpAll.set : ∀ {vs : List V} {ds : List PyData} {v : V} {d : PyData} (i : Nat), RpAll A H vs ds → Rp A H v d → RpAll A H (vs.set i v) (ds.set i d)
  | _, [], _, _, _, r, _ => by cases r; exact .nil
  | _, _ :: _, _, _, 0, r, q => by cases r with | cons _ h2 => exact .cons q h2
  | _, _ :: _, _, _, i + 1, r, q => by cases r with | cons h1 h2 => exact .cons h1 (h2.set i q)
end

/-- all but Z is as it was -/
def Keep (A : Av) (H H' : Hp) : Prop := ∀ a o, ¬ A a → H a = some o → H' a = some o
theorem Keep.refl {A : Av} (H : Hp) : Keep A H H := fun _ _ _ h => h
theorem Keep.trans {A : Av} {H H1 H2 : Hp} (a : Keep A H H1) (b : Keep A H1 H2) : Keep A H H2 := fun c o n h => b c o n (a c o n h)
theorem Keep.mono {A B : Av} {H H1 : Hp} (a : Keep A H H1) (h : ∀ x, A x → B x) : Keep B H H1 := fun c o n e => a c o (fun q => n (h c q)) e
theorem Keep.of_same {A : Av} {H H1 : Hp} (a : Same H H1) : Keep A H H1 := fun c o _ e => a c o e
theorem Rp.keep {A : Av} {H H' : Hp} {v : V} {d : PyData} (r : Rp A H v d) (k : Keep A H H') : Rp A H' v d := Rp.move (fun a o n e => ⟨n, k a o n e⟩) d v r
theorem RpAll.keep {A : Av} {H H' : Hp} {vs : List V} {ds : List PyData} (r : RpAll A H vs ds) (k : Keep A H H') : RpAll A H' vs ds := RpAll.move (fun a o n e => ⟨n, k a o n e⟩) ds vs r
theorem Rp.less {A B : Av} {H : Hp} {v : V} {d : PyData} (r : Rp A H v d) (h : ∀ x, B x → A x) : Rp B H v d := Rp.move (fun a o n e => ⟨fun q => n (h a q), e⟩) d v r
theorem RpAll.less {A B : Av} {H : Hp} {vs : List V} {ds : List PyData} (r : RpAll A H vs ds) (h : ∀ x, B x → A x) : RpAll B H vs ds := RpAll.move (fun a o n e => ⟨fun q => n (h a q), e⟩) ds vs r

theorem Rp.at {A : Av} {H H' : Hp} {p : Addr} {v : V} {d : PyData} (r : Rp A H v d) (n : H p = none) (k : Keep A H H') : Rp (fun a => A a ∨ a = p) H' v d :=
  Rp.move (fun a o na e => ⟨fun z => z.elim na (fun z => by rw [z, n] at e; cases e), k a o na e⟩) d v r
theorem RpAll.at {A : Av} {H H' : Hp} {p : Addr} {vs : List V} {ds : List PyData} (r : RpAll A H vs ds) (n : H p = none) (k : Keep A H H') : RpAll (fun a => A a ∨ a = p) H' vs ds :=
  RpAll.move (fun a o na e => ⟨fun z => z.elim na (fun z => by rw [z, n] at e; cases e), k a o na e⟩) ds vs r

/-! ### the resource: where the draws stand -/
abbrev Res := Option (Addr × Addr)
def Zr : Res → Av
  | none => fun _ => False
  | some (a, c) => fun x => x = a ∨ x = c
structure SrcAt (a c : Addr) (st : Src) (H : Hp) : Prop where
  dic : H a = some (.dK [(.inr "cells", .ref c), (.inr "left", .int st.left), (.inr "mixed", .int st.mixed), (.inr "turn", .int st.turn)])
  cel : H c = some (.lst (st.cells.map V.int))
  ne : a ≠ c
def okR (R : Res) (st : Src) (H : Hp) : Prop := match R with
  | none => True
  | some (a, c) => SrcAt a c st H
theorem okR.dom {R : Res} {st : Src} {H : Hp} (k : okR R st H) {a : Addr} (z : Zr R a) : H a ≠ none := by
  cases R with
  | none => exact z.elim
  | some p =>
    obtain ⟨b, c⟩ := p
    rcases z with e | e
    · rw [e, (show SrcAt b c st H from k).dic]; simp
    · rw [e, (show SrcAt b c st H from k).cel]; simp
theorem okR.keep {R : Res} {st : Src} {H H' : Hp} (k : okR R st H) (h : ∀ a o, Zr R a → H a = some o → H' a = some o) : okR R st H' := by
  cases R with
  | none => trivial
  | some p =>
    obtain ⟨b, c⟩ := p
    have k : SrcAt b c st H := k
    exact (⟨h _ _ (.inl rfl) k.dic, h _ _ (.inr rfl) k.cel, k.ne⟩ : SrcAt b c st H')
theorem okR.same {R : Res} {st : Src} {H H' : Hp} (k : okR R st H) (h : Same H H') : okR R st H' := k.keep fun a o _ e => h a o e

/-! ### slots -/
inductive Slot where
  | un | fz (d : PyData) | ow (d : PyData) | src
def avo (O : Av) (Γ : List Slot) (ow : Nat → Addr) : Av := fun a => O a ∨ ∃ (i : Nat) (d : PyData), Γ[i]? = some (.ow d) ∧ ow i = a
def OwnAt (A : Av) (H : Hp) (p : Addr) : PyData → Prop
  | .list ds => ∃ vs, H p = some (.lst vs) ∧ RpAll A H vs ds
  | _ => False
structure Rel (R : Res) (O : Av) (H0 : Hp) (ow : Nat → Addr) (Γ : List Slot) (σ : L2.St) (H : Hp) : Prop where
  len : Γ.length = σ.length
  hfz : ∀ (i : Nat) (d : PyData), Γ[i]? = some (.fz d) → ∃ v, σ[i]? = some (some v) ∧ Rp (avo O Γ ow) H v d
  how : ∀ (i : Nat) (d : PyData), Γ[i]? = some (.ow d) → σ[i]? = some (some (.ref (ow i))) ∧ OwnAt (avo O Γ ow) H (ow i) d ∧ ¬ O (ow i) ∧ H0 (ow i) = none
  hsrc : ∀ (i : Nat), Γ[i]? = some .src → ∃ a c, R = some (a, c) ∧ σ[i]? = some (some (.ref a))
  hinj : ∀ (i j : Nat) (d d' : PyData), Γ[i]? = some (.ow d) → Γ[j]? = some (.ow d') → ow i = ow j → i = j
  same : Keep (Zr R) H0 H
  zsub : ∀ a, Zr R a → O a
  odom : ∀ a, O a → H a ≠ none
theorem OwnAt.keep {A : Av} {H H' : Hp} {p : Addr} {d : PyData} (h : OwnAt A H p d) (k : Keep A H H') (e : ∀ o, H p = some o → H' p = some o) : OwnAt A H' p d := by
  cases d with
  | list ds => obtain ⟨vs, a, b⟩ := h; exact ⟨vs, e _ a, b.keep k⟩
  | _ => exact h.elim
theorem OwnAt.dom {A : Av} {H : Hp} {p : Addr} {d : PyData} (h : OwnAt A H p d) : H p ≠ none := by
  cases d with
  | list ds => obtain ⟨vs, a, b⟩ := h; rw [a]; simp
  | _ => exact h.elim
section
variable {R : Res} {O : Av} {H0 H H' : Hp} {ow : Nat → Addr} {Γ : List Slot} {σ : L2.St}
theorem Rel.adom (r : Rel R O H0 ow Γ σ H) {a : Addr} (h : avo O Γ ow a) : H a ≠ none := by
  rcases h with h | ⟨i, d, e, rfl⟩
  · exact r.odom a h
  · exact (r.how i d e).2.1.dom
theorem Rel.zavo (r : Rel R O H0 ow Γ σ H) {a : Addr} (h : Zr R a) : avo O Γ ow a := .inl (r.zsub a h)
theorem Rel.keepA (r : Rel R O H0 ow Γ σ H) (k : Keep (Zr R) H H') : Keep (avo O Γ ow) H H' := k.mono fun _ z => r.zavo z
/-- the heap has grown (and the draws have gone on) -/
theorem Rel.grow (r : Rel R O H0 ow Γ σ H) (k : Keep (Zr R) H H') (z : ∀ a, Zr R a → H' a ≠ none) : Rel R O H0 ow Γ σ H' where
  len := r.len
  hfz := fun i d e => let ⟨v, e1, h⟩ := r.hfz i d e; ⟨v, e1, h.keep (r.keepA k)⟩
  how := fun i d e => let ⟨e1, h, n, f⟩ := r.how i d e; ⟨e1, h.keep (r.keepA k) fun o q => k _ o (fun z => n (r.zsub _ z)) q, n, f⟩
  hsrc := r.hsrc
  hinj := r.hinj
  same := r.same.trans k
  zsub := r.zsub
  odom := fun a h => by
    by_cases z1 : Zr R a
    · exact z a z1
    · cases e : H a with
      | none => exact absurd e (r.odom a h)
      | some o => rw [k a o z1 e]; simp
end

/-! ### encodings -/
def eInt (i : Int) : PyData := .int i
def eBool (b : Bool) : PyData := .bool b
def eStr (x : Str) : PyData := .str x
def eNon (_ : Unit) : PyData := .none
def eL {α : Type} (e : α → PyData) (xs : List α) : PyData := .list (xs.map e)
def eT {α : Type} (e : α → PyData) (xs : List α) : PyData := .tuple (xs.map e)
def eO {α : Type} (e : α → PyData) : Option α → PyData
  | none => .none
  | some a => e a
def eD (d : PyData) : PyData := d
/-- tuples of a written length -/
def eU (_ : Unit) : List PyData := []
def eC {α β : Type} (e : α → PyData) (f : β → List PyData) (p : α × β) : List PyData := e p.1 :: f p.2
def eP {α : Type} (f : α → List PyData) (p : α) : PyData := .tuple (f p)

/-! ### the judgements -/
section
variable {α β : Type}
def tE (R : Res) (Γ : List Slot) (enc : α → PyData) (m : M α) : TE := fun σ H Q => ∃ O H0 ow st r st', Rel R O H0 ow Γ σ H ∧ okR R st H ∧ m st = some (r, st') ∧
  ∀ v H', Keep (Zr R) H H' → okR R st' H' → Rp (avo O Γ ow) H' v (enc r) → Q v H'
/-- and one place more -/
def avp (A : Av) (p : Addr) : Av := fun a => A a ∨ a = p
/-- a new list -/
def tF (R : Res) (Γ : List Slot) (enc : α → PyData) (m : M (List α)) : TE := fun σ H Q => ∃ O H0 ow st r st', Rel R O H0 ow Γ σ H ∧ okR R st H ∧ m st = some (r, st') ∧
  ∀ p vs H', H p = none → Keep (Zr R) H H' → okR R st' H' → H' p = some (.lst vs) → RpAll (avp (avo O Γ ow) p) H' vs (r.map enc) → Q (.ref p) H'
def tT (R : Res) (Γ : List Slot) (m : M Bool) : TT := fun σ H Q => ∃ O H0 ow st r st', Rel R O H0 ow Γ σ H ∧ okR R st H ∧ m st = some (r, st') ∧
  ∀ H', Keep (Zr R) H H' → okR R st' H' → Q r H'
/-- an argument: data, or the draws -/
def RpS (R : Res) (A : Av) (H : Hp) (v : V) : Slot → Prop
  | .fz d => Rp A H v d
  | .src => ∃ a c, R = some (a, c) ∧ v = .ref a
  | _ => False
inductive RpSs (R : Res) (A : Av) (H : Hp) : List V → List Slot → Prop
  | nil : RpSs R A H [] []
  | cons {v : V} {vs : List V} {d : Slot} {ds : List Slot} : RpS R A H v d → RpSs R A H vs ds → RpSs R A H (v :: vs) (d :: ds)
def tA (R : Res) (Γ : List Slot) (enc : α → List Slot) (m : M α) : TA := fun σ H Q => ∃ O H0 ow st r st', Rel R O H0 ow Γ σ H ∧ okR R st H ∧ m st = some (r, st') ∧
  ∀ vs H', Keep (Zr R) H H' → okR R st' H' → RpSs R (avo O Γ ow) H' vs (enc r) → Q vs H'
end
/-- the end of a block -/
inductive OutD where
  | nx (Γ : List Slot) | rt (d : PyData)
/-- what a block may change: what it owns -/
structure Step (O : Av) (Γ : List Slot) (ow : Nat → Addr) (H : Hp) (Γ' : List Slot) (ow' : Nat → Addr) (H' : Hp) : Prop where
  keep : Keep (avo O Γ ow) H H'
  sub : ∀ (i : Nat) (d : PyData), Γ'[i]? = some (.ow d) → avo O Γ ow (ow' i) ∨ H (ow' i) = none
def tS {κ : Type} (R : Res) (Γ : List Slot) (out : κ → OutD) (m : M κ) : TS := fun D σ H => ∃ O H0 ow st r st', Rel R O H0 ow Γ σ H ∧ okR R st H ∧ m st = some (r, st') ∧
  match out r with
  | .nx Γ' => ∀ ow' σ' H', Rel R O H0 ow' Γ' σ' H' → okR R st' H' → Step O Γ ow H Γ' ow' H' → D.nx σ' H'
  | .rt d => ∀ v H', Keep (Zr R) H0 H' → okR R st' H' → Rp O H' v d → D.rt v H'

section
variable {X : Cx} {e : Expr} {t t' : TE}
theorem PE.weak (h : PE X e t) (w : ∀ σ H Q, t' σ H Q → t σ H Q) : PE X e t' := ⟨fun pins s σ H Q I q => h.run pins s σ H Q I (w σ H Q q)⟩
theorem PE.ex {ι : Type} {t : ι → TE} (h : ∀ x, PE X e (t x)) : PE X e (fun σ H Q => ∃ x, t x σ H Q) := ⟨fun pins s σ H Q I ⟨x, q⟩ => (h x).run pins s σ H Q I q⟩
theorem PT.weak {t t' : TT} (h : PT X e t) (w : ∀ σ H Q, t' σ H Q → t σ H Q) : PT X e t' := ⟨fun pins s σ H Q I q => h.run pins s σ H Q I (w σ H Q q)⟩
theorem PT.ex {ι : Type} {t : ι → TT} (h : ∀ x, PT X e (t x)) : PT X e (fun σ H Q => ∃ x, t x σ H Q) := ⟨fun pins s σ H Q I ⟨x, q⟩ => (h x).run pins s σ H Q I q⟩
theorem PW.weak {t t' : TT} (h : PW X e t) (w : ∀ σ H Q, t' σ H Q → t σ H Q) : PW X e t' := ⟨fun wh pins s σ H Q I q => h.run wh pins s σ H Q I (w σ H Q q)⟩
theorem PA.weak {es : List Expr} {t t' : TA} (h : PA X es t) (w : ∀ σ H Q, t' σ H Q → t σ H Q) : PA X es t' := ⟨fun pos pins s σ H Q I q => h.run pos pins s σ H Q I (w σ H Q q)⟩
theorem PS.weak {st : Stmt} {t t' : TS} (h : PS X st t) (w : ∀ D σ H, t' D σ H → t D σ H) : PS X st t' := ⟨fun pins s σ H D I q => h.run pins s σ H D I (w D σ H q)⟩
theorem PSs.weak {st : List Stmt} {t t' : TS} (h : PSs X st t) (w : ∀ D σ H, t' D σ H → t D σ H) : PSs X st t' := ⟨fun pins s σ H D I q => h.run pins s σ H D I (w D σ H q)⟩
theorem PSs.ex {ι : Type} {st : List Stmt} {t : ι → TS} (h : ∀ x, PSs X st (t x)) : PSs X st (fun D σ H => ∃ x, t x D σ H) := ⟨fun pins s σ H D I ⟨x, q⟩ => (h x).run pins s σ H D I q⟩
theorem PG.weak {t t' : TG} (h : PG X e t) (w : ∀ v σ H Q, t' v σ H Q → t v σ H Q) : PG X e t' := ⟨fun pins s σ H v u Q I r q => h.run pins s σ H v u Q I r (w v σ H Q q)⟩
end
abbrev EJ {α : Type} (X : Cx) (R : Res) (Γ : List Slot) (e : Expr) (enc : α → PyData) (m : M α) : Prop := PE X e (tE R Γ enc m)
abbrev EF {α : Type} (X : Cx) (R : Res) (Γ : List Slot) (e : Expr) (enc : α → PyData) (m : M (List α)) : Prop := PE X e (tF R Γ enc m)
abbrev TJ (X : Cx) (R : Res) (Γ : List Slot) (e : Expr) (m : M Bool) : Prop := PT X e (tT R Γ m)
abbrev AJ {α : Type} (X : Cx) (R : Res) (Γ : List Slot) (es : List Expr) (enc : α → List Slot) (m : M α) : Prop := PA X es (tA R Γ enc m)
abbrev SJ {κ : Type} (X : Cx) (R : Res) (Γ : List Slot) (st : List Stmt) (out : κ → OutD) (m : M κ) : Prop := PSs X st (tS R Γ out m)
end Pz

namespace Pz
open PySem PySem.Spec PyProof.Rows L2

/-! ### what a step hands back -/
def Post {γ : Type} (A : Av) (H : Hp) (ec : γ → PyData) (z : γ) (Q : VK) : Prop := ∀ v H', Same H H' → Rp A H' v (ec z) → Q v H'
def PostF {γ : Type} (A : Av) (H : Hp) (ec : γ → PyData) (z : List γ) (Q : VK) : Prop := ∀ p vs H', H p = none → Same H H' → H' p = some (.lst vs) → RpAll (avp A p) H' vs (z.map ec) → Q (.ref p) H'
def Adom (A : Av) (H : Hp) : Prop := ∀ a, A a → H a ≠ none
section
variable {α β γ δ : Type} {ea : α → PyData} {eb : β → PyData} {ec : γ → PyData} {ed : δ → PyData} {A : Av} {H H' : Hp}
theorem Adom.same (h : Adom A H) (s : Same H H') : Adom A H' := fun a z => by
  cases e : H a with
  | none => exact absurd e (h a z)
  | some o => rw [s a o e]; simp
theorem Adom.fresh (h : Adom A H) {p : Addr} (n : H p = none) : ¬ A p := fun z => h p z n
theorem PostF.toE {z : List γ} {Q : VK} (h : Post A H (eL ec) z Q) (ad : Adom A H) : PostF A H ec z Q := fun p vs H' n s e r => h _ _ s (.lst (ad.fresh n) e (r.less fun _ z => .inl z))
theorem same_new {H : Hp} {p : Addr} {o : HO} (h : H p = none) : Same H (upd H p o) := fun b x e => by rw [upd_ne (ne_of_none e h)]; exact e
/-- a two-place step by values -/
def VOp (r : R2) (ea : α → PyData) (eb : β → PyData) (ec : γ → PyData) (f : α → β → Option γ) : Prop :=
  ∀ (A : Av) (H : Hp) x y vx vy Q z, Adom A H → Rp A H vx (ea x) → Rp A H vy (eb y) → f x y = some z → Post A H ec z Q → r vx vy H Q
def VOpF (r : R2) (ea : α → PyData) (eb : β → PyData) (ec : γ → PyData) (f : α → β → Option (List γ)) : Prop :=
  ∀ (A : Av) (H : Hp) x y vx vy Q z, Adom A H → Rp A H vx (ea x) → Rp A H vy (eb y) → f x y = some z → PostF A H ec z Q → r vx vy H Q
def V1 (r : V → Hp → VK → Prop) (ea : α → PyData) (ec : γ → PyData) (f : α → Option γ) : Prop :=
  ∀ (A : Av) (H : Hp) x vx Q z, Adom A H → Rp A H vx (ea x) → f x = some z → Post A H ec z Q → r vx H Q
def V1F (r : V → Hp → VK → Prop) (ea : α → PyData) (ec : γ → PyData) (f : α → Option (List γ)) : Prop :=
  ∀ (A : Av) (H : Hp) x vx Q z, Adom A H → Rp A H vx (ea x) → f x = some z → PostF A H ec z Q → r vx H Q
end

section
variable {α β γ δ : Type} {ea : α → PyData} {eb : β → PyData} {ec : γ → PyData} {ed : δ → PyData} {X : Cx} {R : Res} {Γ : List Slot} {e a b c : Expr} {pos : Pos}
theorem Rel.ad {O : Av} {H0 H : Hp} {ow : Nat → Addr} {σ : L2.St} (r : Rel R O H0 ow Γ σ H) : Adom (avo O Γ ow) H := fun _ z => r.adom z
theorem okZ {st : Src} {H : Hp} (k : okR R st H) : ∀ a, Zr R a → H a ≠ none := fun _ z => k.dom z

/-! ### names and constants -/
theorem e_var (i : Nat) {α : Type} (enc : α → PyData) (r : α) {x : Str} (hΓ : Γ[i]? = some (.fz (enc r)) := by rfl) (hN : X.N[i]? = some x := by rfl)
    (hv : Vis X.env.scope x := by first | exact Or.inl rfl | exact Or.inr (Or.inl rfl) | exact Or.inr (Or.inr rfl)) (hd : (x == ("__debug__" : Str)) = false := by decide)
    (hcd : (x == ("__classdict__" : Str)) = false := by decide) : EJ X R Γ (.Name x pos) enc (pureM r) := by
  refine PE.weak (pe_var hN hv hd hcd) fun σ H Q ⟨O, H0, ow, st, r', st', rel, ok, e, q⟩ => ?_
  obtain ⟨rfl, rfl⟩ := pure_some e
  obtain ⟨v, e1, rp⟩ := rel.hfz i _ hΓ
  exact ⟨v, e1, q v H (Keep.refl H) ok rp⟩
/-- an own list, read as it stands, handed on as data without lists in it: see e_borrow -/
theorem e_const {α : Type} {enc : α → PyData} {r : α} {v : V} (h : PE X e (tC v)) (hr : ∀ A H, Rp A H v (enc r)) : EJ X R Γ e enc (pureM r) := by
  refine PE.weak h fun σ H Q ⟨O, H0, ow, st, r', st', rel, ok, e, q⟩ => ?_
  obtain ⟨rfl, rfl⟩ := pure_some e
  exact q v H (Keep.refl H) ok (hr _ _)
theorem e_int {i j} : EJ X R Γ (.Constant (.int i) j pos) eInt (pureM i) := e_const pe_int fun _ _ => .int i
theorem e_bool {b j} : EJ X R Γ (.Constant (.bool b) j pos) eBool (pureM b) := e_const pe_bl fun _ _ => .bl b
theorem e_str {x j} : EJ X R Γ (.Constant (.str x) j pos) eStr (pureM x) := e_const pe_str fun _ _ => .str x
theorem e_non {j} : EJ X R Γ (.Constant .none j pos) eNon (pureM ()) := e_const pe_non fun _ _ => .non

/-! ### another encoding of the same -/
theorem e_enc {α β : Type} {ea : α → PyData} {eb : β → PyData} {m : M α} (f : α → β) (h : EJ X R Γ e ea m) (hf : ∀ x, ea x = eb (f x)) : EJ X R Γ e eb (bindM m fun x => pureM (f x)) := by
  refine PE.weak h fun σ H Q ⟨O, H0, ow, st, r', st', rel, ok, e, q⟩ => ?_
  obtain ⟨x, u, e1, e2⟩ := bind_some e
  obtain ⟨rfl, rfl⟩ := pure_some e2
  exact ⟨O, H0, ow, st, x, u, rel, ok, e1, fun v H' k o r => q v H' k o (by rw [← hf]; exact r)⟩
theorem e_as {α β : Type} {ea : α → PyData} {eb : β → PyData} (f : α → β) {m : M α} {m' : M β} (h : EJ X R Γ e ea m) (hf : ∀ x, ea x = eb (f x)) (hm : m' = bindM m fun x => pureM (f x)) : EJ X R Γ e eb m' := hm ▸ e_enc f h hf
theorem f_e {m : M (List γ)} (h : EF X R Γ e ec m) : EJ X R Γ e (eL ec) m := by
  refine PE.weak h fun σ H Q ⟨O, H0, ow, st, r', st', rel, ok, e, q⟩ => ⟨O, H0, ow, st, r', st', rel, ok, e, fun p vs H' n k o e1 r => ?_⟩
  exact q _ _ k o (.lst (rel.ad.fresh n) e1 (r.less fun _ z => .inl z))
theorem f_enc {α β : Type} {ea : α → PyData} {eb : β → PyData} {m : M (List α)} (f : α → β) (h : EF X R Γ e ea m) (hf : ∀ x, ea x = eb (f x)) : EF X R Γ e eb (bindM m fun x => pureM (x.map f)) := by
  refine PE.weak h fun σ H Q ⟨O, H0, ow, st, r', st', rel, ok, e, q⟩ => ?_
  obtain ⟨x, u, e1, e2⟩ := bind_some e
  obtain ⟨rfl, rfl⟩ := pure_some e2
  refine ⟨O, H0, ow, st, x, u, rel, ok, e1, fun p vs H' n k o e r => q p vs H' n k o e ?_⟩
  rw [List.map_map, show eb ∘ f = ea from funext fun x => (hf x).symm]
  exact r
/-- the same computation, otherwise written -/
theorem e_eq {α : Type} {enc : α → PyData} {m m' : M α} (h : EJ X R Γ e enc m) (hm : m' = m) : EJ X R Γ e enc m' := hm ▸ h
theorem f_eq {α : Type} {enc : α → PyData} {m m' : M (List α)} (h : EF X R Γ e enc m) (hm : m' = m) : EF X R Γ e enc m' := hm ▸ h

/-! ### steps by values -/
theorem keepS {H H1 H2 : Hp} {A : Av} (k : Keep A H H1) (s : Same H1 H2) : Keep A H H2 := k.trans (Keep.of_same s)
theorem noneK {H H1 : Hp} {p : Addr} {st : Src} (k : Keep (Zr R) H H1) (o : okR R st H1) (n : H1 p = none) : H p = none := by
  cases e : H p with
  | none => rfl
  | some u =>
    by_cases z : Zr R p
    · exact absurd n (o.dom z)
    · rw [k p u z e] at n; cases n
/-- two operands, then a step -/
theorem e_two {r : R2} {ma : M α} {mb : M β} {f : α → β → Option γ} (h : PE X e (tOp r (tE R Γ ea ma) (tE R Γ eb mb))) (hv : VOp r ea eb ec f) : EJ X R Γ e ec (bindM ma fun x => bindM mb fun y => optM (f x y)) := by
  refine PE.weak h fun σ H Q ⟨O, H0, ow, st, z, st', rel, ok, e, q⟩ => ?_
  obtain ⟨x, s1, e1, e'⟩ := bind_some e
  obtain ⟨y, s2, e2, e3⟩ := bind_some e'
  obtain ⟨e4, rfl⟩ := optM_inv e3
  refine ⟨O, H0, ow, st, x, s1, rel, ok, e1, fun vx H1 k1 o1 r1 => ?_⟩
  refine ⟨O, H0, ow, s1, y, s2, rel.grow k1 (okZ o1), o1, e2, fun vy H2 k2 o2 r2 => ?_⟩
  have rel2 := (rel.grow k1 (okZ o1)).grow k2 (okZ o2)
  exact hv (avo O Γ ow) H2 x y vx vy Q z rel2.ad (r1.keep ((rel.grow k1 (okZ o1)).keepA k2)) r2 e4 fun v H3 s3 r3 => q v H3 ((k1.trans k2).trans (Keep.of_same s3)) (o2.same s3) r3
theorem f_two {r : R2} {ma : M α} {mb : M β} {f : α → β → Option (List γ)} (h : PE X e (tOp r (tE R Γ ea ma) (tE R Γ eb mb))) (hv : VOpF r ea eb ec f) : EF X R Γ e ec (bindM ma fun x => bindM mb fun y => optM (f x y)) := by
  refine PE.weak h fun σ H Q ⟨O, H0, ow, st, z, st', rel, ok, e, q⟩ => ?_
  obtain ⟨x, s1, e1, e'⟩ := bind_some e
  obtain ⟨y, s2, e2, e3⟩ := bind_some e'
  obtain ⟨e4, rfl⟩ := optM_inv e3
  refine ⟨O, H0, ow, st, x, s1, rel, ok, e1, fun vx H1 k1 o1 r1 => ?_⟩
  refine ⟨O, H0, ow, s1, y, s2, rel.grow k1 (okZ o1), o1, e2, fun vy H2 k2 o2 r2 => ?_⟩
  have rel2 := (rel.grow k1 (okZ o1)).grow k2 (okZ o2)
  exact hv (avo O Γ ow) H2 x y vx vy Q z rel2.ad (r1.keep ((rel.grow k1 (okZ o1)).keepA k2)) r2 e4 fun p vs H3 n s3 e r3 => q p vs H3 (noneK (k1.trans k2) o2 n) ((k1.trans k2).trans (Keep.of_same s3)) (o2.same s3) e r3
theorem t_two {r : R2} {ma : M α} {mb : M β} {f : α → β → Option Bool} (h : PT X e (tTest (tOp r (tE R Γ ea ma) (tE R Γ eb mb)))) (hv : VOp r ea eb eBool f) : TJ X R Γ e (bindM ma fun x => bindM mb fun y => optM (f x y)) := by
  refine PT.weak h fun σ H Q ⟨O, H0, ow, st, z, st', rel, ok, e, q⟩ => ?_
  obtain ⟨x, s1, e1, e'⟩ := bind_some e
  obtain ⟨y, s2, e2, e3⟩ := bind_some e'
  obtain ⟨e4, rfl⟩ := optM_inv e3
  refine ⟨O, H0, ow, st, x, s1, rel, ok, e1, fun vx H1 k1 o1 r1 => ?_⟩
  refine ⟨O, H0, ow, s1, y, s2, rel.grow k1 (okZ o1), o1, e2, fun vy H2 k2 o2 r2 => ?_⟩
  have rel2 := (rel.grow k1 (okZ o1)).grow k2 (okZ o2)
  exact hv (avo O Γ ow) H2 x y vx vy _ z rel2.ad (r1.keep ((rel.grow k1 (okZ o1)).keepA k2)) r2 e4 fun v H3 s3 r3 => by
    cases r3
    exact ⟨z, rfl, q H3 ((k1.trans k2).trans (Keep.of_same s3)) (o2.same s3)⟩
theorem e_bin {op : Operator} {r : R2} {ma : M α} {mb : M β} {f : α → β → Option γ} (ho : OpR X (binaryOp op) r) (hv : VOp r ea eb ec f) (ha : EJ X R Γ a ea ma) (hb : EJ X R Γ b eb mb) : EJ X R Γ (.BinOp a op b pos) ec (bindM ma fun x => bindM mb fun y => optM (f x y)) := e_two (pe_op ho ha hb) hv
theorem f_bin {op : Operator} {r : R2} {ma : M α} {mb : M β} {f : α → β → Option (List γ)} (ho : OpR X (binaryOp op) r) (hv : VOpF r ea eb ec f) (ha : EJ X R Γ a ea ma) (hb : EJ X R Γ b eb mb) : EF X R Γ (.BinOp a op b pos) ec (bindM ma fun x => bindM mb fun y => optM (f x y)) := f_two (pe_op ho ha hb) hv
theorem e_cmp {op : CmpOp} {r : R2} {ma : M α} {mb : M β} {f : α → β → Option Bool} (ho : OpR X (compareOp op) r) (hv : VOp r ea eb eBool f) (ha : EJ X R Γ a ea ma) (hb : EJ X R Γ b eb mb) (hm : behindInMarks op b = false := by first | exact nomark _ | rfl) :
    EJ X R Γ (.Compare a [op] [b] pos) eBool (bindM ma fun x => bindM mb fun y => optM (f x y)) := e_two (pe_cmpR ho ha hb hm) hv
theorem t_cmp {op : CmpOp} {r : R2} {ma : M α} {mb : M β} {f : α → β → Option Bool} (ho : OpR X (compareOp op) r) (hv : VOp r ea eb eBool f) (ha : EJ X R Γ a ea ma) (hb : EJ X R Γ b eb mb) (hm : behindInMarks op b = false := by first | exact nomark _ | rfl) :
    TJ X R Γ (.Compare a [op] [b] pos) (bindM ma fun x => bindM mb fun y => optM (f x y)) := t_two (pt_cmpR ho ha hb hm) hv
theorem e_ix {r : R2} {ma : M α} {mb : M β} {f : α → β → Option γ} (ho : IxR X r) (hv : VOp r ea eb ec f) (ha : EJ X R Γ a ea ma) (hb : EJ X R Γ b eb mb) (hs : PlainIx b := by intro _ _; rfl) :
    EJ X R Γ (.Subscript a b pos) ec (bindM ma fun x => bindM mb fun y => optM (f x y)) := e_two (pe_ix ho ha hb hs) hv
theorem e_one {r : V → Hp → VK → Prop} {ma : M α} {f : α → Option γ} (h : PE X e (tUn r (tE R Γ ea ma))) (hv : V1 r ea ec f) : EJ X R Γ e ec (bindM ma fun x => optM (f x)) := by
  refine PE.weak h fun σ H Q ⟨O, H0, ow, st, z, st', rel, ok, e, q⟩ => ?_
  obtain ⟨x, s1, e1, e3⟩ := bind_some e
  obtain ⟨e4, rfl⟩ := optM_inv e3
  refine ⟨O, H0, ow, st, x, s1, rel, ok, e1, fun vx H1 k1 o1 r1 => ?_⟩
  exact hv (avo O Γ ow) H1 x vx Q z (rel.grow k1 (okZ o1)).ad r1 e4 fun v H3 s3 r3 => q v H3 (k1.trans (Keep.of_same s3)) (o1.same s3) r3
theorem f_one {r : V → Hp → VK → Prop} {ma : M α} {f : α → Option (List γ)} (h : PE X e (tUn r (tE R Γ ea ma))) (hv : V1F r ea ec f) : EF X R Γ e ec (bindM ma fun x => optM (f x)) := by
  refine PE.weak h fun σ H Q ⟨O, H0, ow, st, z, st', rel, ok, e, q⟩ => ?_
  obtain ⟨x, s1, e1, e3⟩ := bind_some e
  obtain ⟨e4, rfl⟩ := optM_inv e3
  refine ⟨O, H0, ow, st, x, s1, rel, ok, e1, fun vx H1 k1 o1 r1 => ?_⟩
  exact hv (avo O Γ ow) H1 x vx Q z (rel.grow k1 (okZ o1)).ad r1 e4 fun p vs H3 n s3 e r3 => q p vs H3 (noneK k1 o1 n) (k1.trans (Keep.of_same s3)) (o1.same s3) e r3
theorem e_un {op : UnaryOp} {r : V → Hp → VK → Prop} {ma : M α} {f : α → Option γ} (ho : UnR X (unaryOp op) r) (hv : V1 r ea ec f) (ha : EJ X R Γ a ea ma) : EJ X R Γ (.UnaryOp op a pos) ec (bindM ma fun x => optM (f x)) := e_one (pe_un ho ha) hv

/-! ### argument lists -/
theorem a_nil : AJ X R Γ [] (fun _ : Unit => []) (pureM ()) := by
  refine PA.weak pa_nil fun σ H Q ⟨O, H0, ow, st, z, st', rel, ok, e, q⟩ => ?_
  obtain ⟨rfl, rfl⟩ := pure_some e
  exact q [] H (Keep.refl H) ok .nil
theorem RpS.keep {A : Av} {H H' : Hp} {v : V} {s : Slot} (r : RpS R A H v s) (k : Keep A H H') : RpS R A H' v s := by
  cases s with
  | fz d => exact Rp.keep (show Rp A H v d from r) k
  | src => exact r
  | _ => exact r.elim
theorem a_cons {es : List Expr} {en : β → List Slot} {ma : M α} {mb : M β} (ha : EJ X R Γ a ea ma) (hb : AJ X R Γ es en mb) (hs : starEach (a :: es) X.env = (false, eval a X.env) :: starEach es X.env := by rfl) :
    AJ X R Γ (a :: es) (fun p : α × β => .fz (ea p.1) :: en p.2) (bindM ma fun x => bindM mb fun y => pureM (x, y)) := by
  refine PA.weak (pa_cons ha hb hs) fun σ H Q ⟨O, H0, ow, st, z, st', rel, ok, e, q⟩ => ?_
  obtain ⟨x, s1, e1, e'⟩ := bind_some e
  obtain ⟨y, s2, e2, e3⟩ := bind_some e'
  obtain ⟨rfl, rfl⟩ := pure_some e3
  refine ⟨O, H0, ow, st, x, s1, rel, ok, e1, fun vx H1 k1 o1 r1 => ?_⟩
  refine ⟨O, H0, ow, s1, y, s2, rel.grow k1 (okZ o1), o1, e2, fun vs H2 k2 o2 r2 => ?_⟩
  exact q _ H2 (k1.trans k2) o2 (.cons (r1.keep ((rel.grow k1 (okZ o1)).keepA k2)) r2)
/-- the draws handed on: the name in slot i -/
theorem a_src (i : Nat) {x : Str} {es : List Expr} {en : β → List Slot} {mb : M β} (hb : AJ X R Γ es en mb) (hΓ : Γ[i]? = some .src := by rfl) (hN : X.N[i]? = some x := by rfl)
    (hv : Vis X.env.scope x := by first | exact Or.inl rfl | exact Or.inr (Or.inl rfl) | exact Or.inr (Or.inr rfl)) (hd : (x == ("__debug__" : Str)) = false := by decide)
    (hcd : (x == ("__classdict__" : Str)) = false := by decide) (hs : starEach (.Name x pos :: es) X.env = (false, eval (.Name x pos) X.env) :: starEach es X.env := by rfl) :
    AJ X R Γ (.Name x pos :: es) (fun p : β => .src :: en p) mb := by
  refine PA.weak (pa_cons (pe_var hN hv hd hcd) hb hs) fun σ H Q ⟨O, H0, ow, st, z, st', rel, ok, e, q⟩ => ?_
  obtain ⟨a, c, e1, e2⟩ := rel.hsrc i hΓ
  exact ⟨_, e2, O, H0, ow, st, z, st', rel, ok, e, fun vs H2 k2 o2 r2 => q _ H2 k2 o2 (.cons ⟨a, c, e1, rfl⟩ r2)⟩

/-! ### displays -/
/-- the data of an argument list -/
def Dat (l : List PyData) : List Slot := l.map .fz
theorem RpSs.dat {A : Av} {H : Hp} : ∀ {vs : List V} {l : List PyData}, RpSs R A H vs (l.map .fz) → RpAll A H vs l
  | _, [], h => by cases h; exact .nil
  | _, _ :: _, h => by
    cases h with
    | cons h1 h2 => exact .cons h1 (RpSs.dat h2)
theorem e_tup {es : List Expr} {k : Nat} {en : α → List Slot} {m : M α} (f : α → List PyData) (h : AJ X R Γ es en m) (hf : ∀ x, en x = (f x).map .fz := by intro _; rfl) (hl : ∀ x, (f x).length ≤ sizeLine := by intro _; exact (by decide : (_ : Nat) ≤ sizeLine)) :
    EJ X R Γ (.Tuple es k pos) (eP f) m := by
  refine PE.weak (pe_tup h) fun σ H Q ⟨O, H0, ow, st, z, st', rel, ok, e, q⟩ => ⟨O, H0, ow, st, z, st', rel, ok, e, fun vs H1 k1 o1 r1 => ?_⟩
  have r2 : RpAll _ _ _ _ := RpSs.dat (R := R) (by rw [hf] at r1; exact r1)
  refine ⟨by rw [r2.length]; exact hl z, fun p n => q _ _ (keepS k1 (same_new n)) (o1.same (same_new n)) ?_⟩
  exact .tup ((rel.grow k1 (okZ o1)).ad.fresh n) upd_same (r2.keep (Keep.of_same (same_new n)))
theorem f_lst {es : List Expr} {k : Nat} {en : α → List Slot} {m : M α} (f : α → List γ) (h : AJ X R Γ es en m) (hf : ∀ x, en x = ((f x).map ec).map .fz := by intro _; rfl) (hl : ∀ x, (f x).length ≤ sizeLine := by intro _; exact (by decide : (_ : Nat) ≤ sizeLine)) :
    EF X R Γ (.List es pos) ec (bindM m fun x => pureM (f x)) := by
  refine PE.weak (pe_lst h) fun σ H Q ⟨O, H0, ow, st, z, st', rel, ok, e, q⟩ => ?_
  obtain ⟨x, s1, e1, e2⟩ := bind_some e
  obtain ⟨rfl, rfl⟩ := pure_some e2
  refine ⟨O, H0, ow, st, x, s1, rel, ok, e1, fun vs H1 k1 o1 r1 => ?_⟩
  have r2 : RpAll _ _ _ _ := RpSs.dat (R := R) (by rw [hf] at r1; exact r1)
  refine ⟨by rw [r2.length, List.length_map]; exact hl x, fun p n => q p vs _ (noneK k1 o1 n) (keepS k1 (same_new n)) (o1.same (same_new n)) upd_same (r2.at n (Keep.of_same (same_new n)))⟩

/-! ### calls of built-ins -/
/-- a step on an argument list, by values -/
def VN (r : List V → Hp → VK → Prop) (en : α → List PyData) (ec : γ → PyData) (f : α → Option γ) : Prop :=
  ∀ (A : Av) (H : Hp) x vs Q z, Adom A H → RpAll A H vs (en x) → f x = some z → Post A H ec z Q → r vs H Q
def VNF (r : List V → Hp → VK → Prop) (en : α → List PyData) (ec : γ → PyData) (f : α → Option (List γ)) : Prop :=
  ∀ (A : Av) (H : Hp) x vs Q z, Adom A H → RpAll A H vs (en x) → f x = some z → PostF A H ec z Q → r vs H Q
theorem e_many {es : List Expr} {r : List V → Hp → VK → Prop} {en : α → List Slot} {m : M α} {f : α → Option γ} (dn : α → List PyData) (h : PE X e (tCB r (tA R Γ en m))) (hv : VN r dn ec f) (hf : ∀ x, en x = (dn x).map .fz := by intro _; rfl) :
    EJ X R Γ e ec (bindM m fun x => optM (f x)) := by
  refine PE.weak h fun σ H Q ⟨O, H0, ow, st, z, st', rel, ok, e, q⟩ => ?_
  obtain ⟨x, s1, e1, e3⟩ := bind_some e
  obtain ⟨e4, rfl⟩ := optM_inv e3
  refine ⟨O, H0, ow, st, x, s1, rel, ok, e1, fun vx H1 k1 o1 r1 => ?_⟩
  exact hv (avo O Γ ow) H1 x vx Q z (rel.grow k1 (okZ o1)).ad (RpSs.dat (by rw [hf] at r1; exact r1)) e4 fun v H3 s3 r3 => q v H3 (k1.trans (Keep.of_same s3)) (o1.same s3) r3
theorem f_many {es : List Expr} {r : List V → Hp → VK → Prop} {en : α → List Slot} {m : M α} {f : α → Option (List γ)} (dn : α → List PyData) (h : PE X e (tCB r (tA R Γ en m))) (hv : VNF r dn ec f) (hf : ∀ x, en x = (dn x).map .fz := by intro _; rfl) :
    EF X R Γ e ec (bindM m fun x => optM (f x)) := by
  refine PE.weak h fun σ H Q ⟨O, H0, ow, st, z, st', rel, ok, e, q⟩ => ?_
  obtain ⟨x, s1, e1, e3⟩ := bind_some e
  obtain ⟨e4, rfl⟩ := optM_inv e3
  refine ⟨O, H0, ow, st, x, s1, rel, ok, e1, fun vx H1 k1 o1 r1 => ?_⟩
  exact hv (avo O Γ ow) H1 x vx Q z (rel.grow k1 (okZ o1)).ad (RpSs.dat (by rw [hf] at r1; exact r1)) e4 fun p vs H3 n s3 e r3 => q p vs H3 (noneK k1 o1 n) (k1.trans (Keep.of_same s3)) (o1.same s3) e r3

/-! ### tests -/
theorem t_val {m : M Bool} (h : EJ X R Γ e eBool m) (he : ∀ whole, isTrue e X.env whole = (do let v ← whole; standAt e.pos; holding [v] (truthy v)) := by intro _; rfl) : TJ X R Γ e m := by
  refine PT.weak (pt_val h he) fun σ H Q ⟨O, H0, ow, st, z, st', rel, ok, e, q⟩ => ⟨O, H0, ow, st, z, st', rel, ok, e, fun v H1 k1 o1 r1 => ?_⟩
  cases r1
  exact ⟨z, rfl, q H1 k1 o1⟩
theorem t_not {m : M Bool} (h : TJ X R Γ a m) : TJ X R Γ (.UnaryOp .Not a pos) (bindM m fun b => pureM (!b)) := by
  refine PT.weak (pt_not h) fun σ H Q ⟨O, H0, ow, st, z, st', rel, ok, e, q⟩ => ?_
  obtain ⟨x, s1, e1, e2⟩ := bind_some e
  obtain ⟨rfl, rfl⟩ := pure_some e2
  exact ⟨O, H0, ow, st, x, s1, rel, ok, e1, q⟩
abbrev WJ (X : Cx) (R : Res) (Γ : List Slot) (e : Expr) (m : M Bool) : Prop := PW X e (tT R Γ m)
theorem w_t {m : M Bool} (h : WJ X R Γ e m) : TJ X R Γ e m := h.pt
theorem w_and1 {m : M Bool} (h : TJ X R Γ a m) : WJ X R Γ (.BoolOp .And [a] pos) m := pw_and1 h
theorem w_or1 {m : M Bool} (h : TJ X R Γ a m) : WJ X R Γ (.BoolOp .Or [a] pos) m := pw_or1 h
theorem w_and {rest : List Expr} {ma mb : M Bool} (ha : TJ X R Γ a ma) (hb : WJ X R Γ (.BoolOp .And (b :: rest) pos) mb) : WJ X R Γ (.BoolOp .And (a :: b :: rest) pos) (bindM ma fun x => if x then mb else pureM false) := by
  refine PW.weak (pw_and ha hb) fun σ H Q ⟨O, H0, ow, st, z, st', rel, ok, e, q⟩ => ?_
  obtain ⟨x, s1, e1, e2⟩ := bind_some e
  refine ⟨O, H0, ow, st, x, s1, rel, ok, e1, fun H1 k1 o1 => ?_⟩
  cases x with
  | true => exact ⟨O, H0, ow, s1, z, st', rel.grow k1 (okZ o1), o1, e2, fun H2 k2 o2 => q H2 (k1.trans k2) o2⟩
  | false =>
    obtain ⟨rfl, rfl⟩ := pure_some (show pureM false s1 = some (z, st') from e2)
    exact q H1 k1 o1
theorem w_or {rest : List Expr} {ma mb : M Bool} (ha : TJ X R Γ a ma) (hb : WJ X R Γ (.BoolOp .Or (b :: rest) pos) mb) : WJ X R Γ (.BoolOp .Or (a :: b :: rest) pos) (bindM ma fun x => if x then pureM true else mb) := by
  refine PW.weak (pw_or ha hb) fun σ H Q ⟨O, H0, ow, st, z, st', rel, ok, e, q⟩ => ?_
  obtain ⟨x, s1, e1, e2⟩ := bind_some e
  refine ⟨O, H0, ow, st, x, s1, rel, ok, e1, fun H1 k1 o1 => ?_⟩
  cases x with
  | false => exact ⟨O, H0, ow, s1, z, st', rel.grow k1 (okZ o1), o1, e2, fun H2 k2 o2 => q H2 (k1.trans k2) o2⟩
  | true =>
    obtain ⟨rfl, rfl⟩ := pure_some (show pureM true s1 = some (z, st') from e2)
    exact q H1 k1 o1
/-- .. as values -/
theorem e_one1 {op} {m : M Bool} (h : EJ X R Γ a eBool m) : EJ X R Γ (.BoolOp op [a] pos) eBool m := pe_one h
theorem e_and {rest : List Expr} {ma mb : M Bool} (ha : EJ X R Γ a eBool ma) (hb : EJ X R Γ (.BoolOp .And (b :: rest) pos) eBool mb) : EJ X R Γ (.BoolOp .And (a :: b :: rest) pos) eBool (bindM ma fun x => if x then mb else pureM false) := by
  refine PE.weak (pe_and ha hb) fun σ H Q ⟨O, H0, ow, st, z, st', rel, ok, e, q⟩ => ?_
  obtain ⟨x, s1, e1, e2⟩ := bind_some e
  refine ⟨O, H0, ow, st, x, s1, rel, ok, e1, fun v H1 k1 o1 r1 => ?_⟩
  cases r1
  refine ⟨x, rfl, ?_⟩
  cases x with
  | true => exact ⟨O, H0, ow, s1, z, st', rel.grow k1 (okZ o1), o1, e2, fun v H2 k2 o2 r => q v H2 (k1.trans k2) o2 r⟩
  | false =>
    obtain ⟨rfl, rfl⟩ := pure_some (show pureM false s1 = some (z, st') from e2)
    exact q _ H1 k1 o1 (.bl false)
theorem e_or {rest : List Expr} {ma mb : M Bool} (ha : EJ X R Γ a eBool ma) (hb : EJ X R Γ (.BoolOp .Or (b :: rest) pos) eBool mb) : EJ X R Γ (.BoolOp .Or (a :: b :: rest) pos) eBool (bindM ma fun x => if x then pureM true else mb) := by
  refine PE.weak (pe_or ha hb) fun σ H Q ⟨O, H0, ow, st, z, st', rel, ok, e, q⟩ => ?_
  obtain ⟨x, s1, e1, e2⟩ := bind_some e
  refine ⟨O, H0, ow, st, x, s1, rel, ok, e1, fun v H1 k1 o1 r1 => ?_⟩
  cases r1
  refine ⟨x, rfl, ?_⟩
  cases x with
  | false => exact ⟨O, H0, ow, s1, z, st', rel.grow k1 (okZ o1), o1, e2, fun v H2 k2 o2 r => q v H2 (k1.trans k2) o2 r⟩
  | true =>
    obtain ⟨rfl, rfl⟩ := pure_some (show pureM true s1 = some (z, st') from e2)
    exact q _ H1 k1 o1 (.bl true)
theorem e_not {m : M Bool} (h : EJ X R Γ a eBool m) : EJ X R Γ (.UnaryOp .Not a pos) eBool (bindM m fun b => pureM (!b)) := by
  refine PE.weak (pe_not h) fun σ H Q ⟨O, H0, ow, st, z, st', rel, ok, e, q⟩ => ?_
  obtain ⟨x, s1, e1, e2⟩ := bind_some e
  obtain ⟨rfl, rfl⟩ := pure_some e2
  exact ⟨O, H0, ow, st, x, s1, rel, ok, e1, fun v H1 k1 o1 r1 => by cases r1; exact ⟨x, rfl, q _ H1 k1 o1 (.bl _)⟩⟩
theorem e_if {mc : M Bool} {ma mb : M α} (hc : TJ X R Γ c mc) (ha : EJ X R Γ a ea ma) (hb : EJ X R Γ b ea mb) : EJ X R Γ (.IfExp c a b pos) ea (bindM mc fun x => if x then ma else mb) := by
  refine PE.weak (pe_ifExp hc ha hb) fun σ H Q ⟨O, H0, ow, st, z, st', rel, ok, e, q⟩ => ?_
  obtain ⟨x, s1, e1, e2⟩ := bind_some e
  refine ⟨O, H0, ow, st, x, s1, rel, ok, e1, fun H1 k1 o1 => ?_⟩
  cases x with
  | true => exact ⟨O, H0, ow, s1, z, st', rel.grow k1 (okZ o1), o1, e2, fun v H2 k2 o2 r => q v H2 (k1.trans k2) o2 r⟩
  | false => exact ⟨O, H0, ow, s1, z, st', rel.grow k1 (okZ o1), o1, e2, fun v H2 k2 o2 r => q v H2 (k1.trans k2) o2 r⟩
theorem f_if {mc : M Bool} {ma mb : M (List α)} (hc : TJ X R Γ c mc) (ha : EF X R Γ a ea ma) (hb : EF X R Γ b ea mb) : EF X R Γ (.IfExp c a b pos) ea (bindM mc fun x => if x then ma else mb) := by
  refine PE.weak (pe_ifExp hc ha hb) fun σ H Q ⟨O, H0, ow, st, z, st', rel, ok, e, q⟩ => ?_
  obtain ⟨x, s1, e1, e2⟩ := bind_some e
  refine ⟨O, H0, ow, st, x, s1, rel, ok, e1, fun H1 k1 o1 => ?_⟩
  cases x with
  | true => exact ⟨O, H0, ow, s1, z, st', rel.grow k1 (okZ o1), o1, e2, fun p vs H2 n k2 o2 e r => q p vs H2 (noneK k1 o1 n) (k1.trans k2) o2 e r⟩
  | false => exact ⟨O, H0, ow, s1, z, st', rel.grow k1 (okZ o1), o1, e2, fun p vs H2 n k2 o2 e r => q p vs H2 (noneK k1 o1 n) (k1.trans k2) o2 e r⟩
end
end Pz

namespace Pz
open PySem PySem.Spec PyProof.Rows L2

/-! ### what is forgotten, what is frozen -/
inductive Low : List Slot → List Slot → Prop
  | nil : Low [] []
  | un {s : Slot} {l r : List Slot} : Low l r → Low (s :: l) (.un :: r)
  | eq {s : Slot} {l r : List Slot} : Low l r → Low (s :: l) (s :: r)
  | fr {d : PyData} {l r : List Slot} : Low l r → Low (.ow d :: l) (.fz d :: r)
theorem Low.refl : ∀ Γ, Low Γ Γ
  | [] => .nil
  | _ :: r => .eq (Low.refl r)
theorem Low.at {Γ Γ' : List Slot} (h : Low Γ Γ') : ∀ i : Nat, (Γ[i]? = none ∧ Γ'[i]? = none) ∨ ∃ s, Γ[i]? = some s ∧ (Γ'[i]? = some .un ∨ Γ'[i]? = some s ∨ ∃ d, s = .ow d ∧ Γ'[i]? = some (.fz d)) := by
  induction h with
  | nil => intro i; exact .inl ⟨rfl, rfl⟩
  | un _ ih => intro i; cases i with
    | zero => exact .inr ⟨_, rfl, .inl rfl⟩
    | succ i => exact ih i
  | eq _ ih => intro i; cases i with
    | zero => exact .inr ⟨_, rfl, .inr (.inl rfl)⟩
    | succ i => exact ih i
  | fr _ ih => intro i; cases i with
    | zero => exact .inr ⟨_, rfl, .inr (.inr ⟨_, rfl, rfl⟩)⟩
    | succ i => exact ih i
theorem Low.length {Γ Γ' : List Slot} (h : Low Γ Γ') : Γ.length = Γ'.length := by induction h <;> simp_all
theorem Low.ow {Γ Γ' : List Slot} (h : Low Γ Γ') {i : Nat} {d : PyData} (e : Γ'[i]? = some (.ow d)) : Γ[i]? = some (.ow d) := by
  rcases h.at i with ⟨_, e2⟩ | ⟨s, e1, e2 | e2 | ⟨d', _, e2⟩⟩
  · rw [e] at e2; cases e2
  · rw [e] at e2; cases e2
  · rw [e] at e2; cases e2; exact e1
  · rw [e] at e2; cases e2
theorem Low.avo {O : Av} {ow : Nat → Addr} {Γ Γ' : List Slot} (h : Low Γ Γ') : ∀ a, avo O Γ' ow a → avo O Γ ow a := fun a z => by
  rcases z with z | ⟨i, d, e, q⟩
  · exact .inl z
  · exact .inr ⟨i, d, h.ow e, q⟩
theorem Rel.low {R : Res} {O : Av} {H0 H : Hp} {ow : Nat → Addr} {Γ Γ' : List Slot} {σ : L2.St} (r : Rel R O H0 ow Γ σ H) (h : Low Γ Γ') : Rel R O H0 ow Γ' σ H where
  len := h.length ▸ r.len
  hfz := fun i d e => by
    rcases h.at i with ⟨_, e2⟩ | ⟨s, e1, e2 | e2 | ⟨d', rfl, e2⟩⟩
    · rw [e] at e2; cases e2
    · rw [e] at e2; cases e2
    · rw [e] at e2; cases e2
      obtain ⟨v, a, b⟩ := r.hfz i d e1
      exact ⟨v, a, b.less h.avo⟩
    · rw [e] at e2; cases e2
      obtain ⟨a, b, c, f⟩ := r.how i d e1
      refine ⟨_, a, ?_⟩
      cases d with
      | list ds =>
        obtain ⟨vs, q1, q2⟩ := b
        refine .lst (fun z => ?_) q1 (q2.less h.avo)
        rcases z with z | ⟨j, d', e3, q⟩
        · exact c z
        · have := r.hinj j i _ _ (h.ow e3) e1 q
          subst this
          rw [e] at e3; cases e3
      | _ => exact b.elim
  how := fun i d e => let ⟨a, b, c, f⟩ := r.how i d (h.ow e); ⟨a, by
    cases d with
    | list ds => obtain ⟨vs, q1, q2⟩ := b; exact ⟨vs, q1, q2.less h.avo⟩
    | _ => exact b.elim, c, f⟩
  hsrc := fun i e => by
    rcases h.at i with ⟨_, e2⟩ | ⟨s, e1, e2 | e2 | ⟨d', rfl, e2⟩⟩
    · rw [e] at e2; cases e2
    · rw [e] at e2; cases e2
    · rw [e] at e2; cases e2; exact r.hsrc i e1
    · rw [e] at e2; cases e2
  hinj := fun i j d d' e1 e2 => r.hinj i j d d' (h.ow e1) (h.ow e2)
  same := r.same
  zsub := r.zsub
  odom := r.odom

/-! ### steps one behind the other -/
section
variable {R : Res} {O : Av} {H0 H H1 H2 : Hp} {ow ow1 ow2 : Nat → Addr} {Γ Γ1 Γ2 : List Slot} {σ : L2.St}
theorem Step.refl : Step O Γ ow H Γ ow H := ⟨Keep.refl H, fun i d e => .inl (.inr ⟨i, d, e, rfl⟩)⟩
theorem Step.trans (a : Step O Γ ow H Γ1 ow1 H1) (b : Step O Γ1 ow1 H1 Γ2 ow2 H2) : Step O Γ ow H Γ2 ow2 H2 where
  keep := fun x o n e => b.keep x o (fun z => by
    rcases z with z | ⟨i, d, e1, q⟩
    · exact n (.inl z)
    · subst q
      rcases a.sub i d e1 with z | z
      · exact n z
      · rw [e] at z; cases z) (a.keep x o n e)
  sub := fun i d e => by
    rcases b.sub i d e with z | z
    · rcases z with z | ⟨j, d', e1, q⟩
      · exact .inl (.inl z)
      · rw [← q]; exact a.sub j d' e1
    · by_cases n : avo O Γ ow (ow2 i)
      · exact .inl n
      · cases e1 : H (ow2 i) with
        | none => exact .inr rfl
        | some o => rw [a.keep _ o n e1] at z; cases z
/-- ahead of the step the heap grew -/
theorem Step.pre (k : Keep (avo O Γ ow) H H1) (b : Step O Γ ow H1 Γ2 ow2 H2) : Step O Γ ow H Γ2 ow2 H2 where
  keep := k.trans b.keep
  sub := fun i d e => by
    rcases b.sub i d e with z | z
    · exact .inl z
    · by_cases n : avo O Γ ow (ow2 i)
      · exact .inl n
      · cases e1 : H (ow2 i) with
        | none => exact .inr rfl
        | some o => rw [k _ o n e1] at z; cases z
theorem Step.low (h : Low Γ Γ1) (b : Step O Γ1 ow H Γ2 ow2 H2) : Step O Γ ow H Γ2 ow2 H2 where
  keep := b.keep.mono h.avo
  sub := fun i d e => by
    rcases b.sub i d e with z | z
    · exact .inl (h.avo _ z)
    · exact .inr z
theorem Step.lowR (h : Low Γ1 Γ2) (b : Step O Γ ow H Γ1 ow1 H1) : Step O Γ ow H Γ2 ow1 H1 where
  keep := b.keep
  sub := fun i d e => b.sub i d (h.ow e)
end

abbrev QJ {κ : Type} (X : Cx) (R : Res) (Γ : List Slot) (st : Stmt) (out : κ → OutD) (m : M κ) : Prop := PS X st (tS R Γ out m)
section
variable {α β γ κ ρ : Type} {ea : α → PyData} {ec : γ → PyData} {er : ρ → PyData} {X : Cx} {R : Res} {Γ Γ' : List Slot} {e c : Expr} {st : Stmt} {rest A B : List Stmt} {pos : Pos} {out : κ → OutD}

/-! ### blocks -/
theorem s_nil {k : κ} (hk : out k = .nx Γ') (h : Low Γ Γ') : SJ X R Γ [] out (pureM k) := by
  refine PSs.weak pss_nil fun D σ H ⟨O, H0, ow, st, z, st', rel, ok, e, q⟩ => ?_
  obtain ⟨rfl, rfl⟩ := pure_some e
  rw [hk] at q
  exact q ow σ H (rel.low h) ok (Step.refl.lowR h)
theorem s_low {m : M κ} (h : Low Γ Γ') (hs : SJ X R Γ' rest out m) : SJ X R Γ rest out m := by
  refine PSs.weak hs fun D σ H ⟨O, H0, ow, st, z, st', rel, ok, e, q⟩ => ⟨O, H0, ow, st, z, st', rel.low h, ok, e, ?_⟩
  revert q
  cases out z with
  | nx Γ2 => exact fun q ow' σ' H' a b c => q ow' σ' H' a b (c.low h)
  | rt d => exact fun q => q
theorem s_eq {m m' : M κ} (h : SJ X R Γ rest out m) (hm : m' = m) : SJ X R Γ rest out m' := hm ▸ h
theorem s_step {Γ1 : β → List Slot} {m1 : M β} {k : β → M κ} (h1 : QJ X R Γ st (fun b => .nx (Γ1 b)) m1) (h2 : ∀ b, SJ X R (Γ1 b) rest out (k b)) : SJ X R Γ (st :: rest) out (bindM m1 k) := by
  refine PSs.weak (pss_cons h1 (PSs.ex h2)) fun D σ H ⟨O, H0, ow, st, z, st', rel, ok, e, q⟩ => ?_
  obtain ⟨b, s1, e1, e2⟩ := bind_some e
  refine ⟨O, H0, ow, st, b, s1, rel, ok, e1, fun ow1 σ1 H1 r1 o1 p1 => ?_⟩
  refine ⟨b, O, H0, ow1, s1, z, st', r1, o1, e2, ?_⟩
  revert q
  cases out z with
  | nx Γ2 => exact fun q ow' σ' H' a b c => q ow' σ' H' a b (p1.trans c)
  | rt d => exact fun q => q
/-- a step that may return -/
def outO {ρ β : Type} (er : ρ → PyData) (Γ1 : β → List Slot) : Out ρ β → OutD
  | .nx b => .nx (Γ1 b)
  | .rt r => .rt (er r)
theorem s_stepO {Γ1 : β → List Slot} {m1 : M (Out ρ β)} {k : β → M κ} (f : ρ → κ) (h1 : QJ X R Γ st (outO er Γ1) m1) (h2 : ∀ b, SJ X R (Γ1 b) rest out (k b)) (hf : ∀ r, out (f r) = .rt (er r) := by intro _; rfl) :
    SJ X R Γ (st :: rest) out (bindM m1 fun o => match o with | .nx b => k b | .rt r => pureM (f r)) := by
  refine PSs.weak (pss_cons h1 (PSs.ex h2)) fun D σ H ⟨O, H0, ow, st, z, st', rel, ok, e, q⟩ => ?_
  obtain ⟨b, s1, e1, e2⟩ := bind_some e
  refine ⟨O, H0, ow, st, b, s1, rel, ok, e1, ?_⟩
  cases b with
  | nx b =>
    refine fun ow1 σ1 H1 r1 o1 p1 => ⟨b, O, H0, ow1, s1, z, st', r1, o1, e2, ?_⟩
    revert q
    cases out z with
    | nx Γ2 => exact fun q ow' σ' H' a b c => q ow' σ' H' a b (p1.trans c)
    | rt d => exact fun q => q
  | rt r =>
    obtain ⟨rfl, rfl⟩ := pure_some (show pureM (f r) s1 = some (z, st') from e2)
    rw [hf] at q
    exact q
theorem s_ret {enc : α → PyData} {m : M α} (f : α → κ) (he : EJ X R Γ e enc m) (hf : ∀ r, out (f r) = .rt (enc r) := by intro _; rfl) : SJ X R Γ (.Return (some e) pos :: rest) out (bindM m fun r => pureM (f r)) := by
  have h : PS X (.Return (some e) pos) _ := ps_ret he
  have h2 : PSs X (.Return (some e) pos :: rest) (tRet (tE R Γ enc m)) := by
    refine ⟨fun pins s σ H D I h' => ?_⟩
    refine wpAny_execs_cons (thn (h.run pins s σ H { D with nx := fun _ _ => False, bk := fun _ _ => False, ct := fun _ _ => False } I h') fun f s1 q => ?_)
    cases f with
    | next => exact q.elim fun _ ⟨_, _, z⟩ => z.elim
    | ret v => exact q
    | brk => exact q.elim fun _ ⟨_, _, z⟩ => z.elim
    | cont => exact q.elim fun _ ⟨_, _, z⟩ => z.elim
  refine PSs.weak h2 fun D σ H ⟨O, H0, ow, st, z, st', rel, ok, e, q⟩ => ?_
  obtain ⟨r, s1, e1, e2⟩ := bind_some e
  obtain ⟨rfl, rfl⟩ := pure_some e2
  rw [hf] at q
  exact ⟨O, H0, ow, st, r, s1, rel, ok, e1, fun v H' k o rp => q v H' (rel.same.trans k) o (rp.less fun a z => .inl z)⟩
/-- if c: .. that always returns -/
theorem s_ifret {outA : ρ → OutD} {mc : M Bool} {mA : M ρ} {mR : M κ} (f : ρ → κ) (hc : TJ X R Γ c mc) (hA : SJ X R Γ A outA mA) (hr : ∀ r, ∃ d, outA r = .rt d) (hf : ∀ r, out (f r) = outA r) (hR : SJ X R Γ rest out mR) :
    SJ X R Γ (.If c A [] pos :: rest) out (bindM mc fun k => if k then bindM mA (fun r => pureM (f r)) else mR) := by
  refine PSs.weak (pss_cons (ps_if hc hA pss_nil) hR) fun D σ H ⟨O, H0, ow, st, z, st', rel, ok, e, q⟩ => ?_
  obtain ⟨b, s1, e1, e2⟩ := bind_some e
  refine ⟨O, H0, ow, st, b, s1, rel, ok, e1, fun H1 k1 o1 => ?_⟩
  cases b with
  | true =>
    obtain ⟨r, s2, e3, e4⟩ := bind_some (show bindM mA (fun r => pureM (f r)) s1 = some (z, st') from e2)
    obtain ⟨rfl, rfl⟩ := pure_some e4
    refine ⟨O, H0, ow, s1, r, s2, rel.grow k1 (okZ o1), o1, e3, ?_⟩
    obtain ⟨d, hd⟩ := hr r
    rw [hf r] at q
    rw [hd] at q ⊢
    exact q
  | false =>
    refine ⟨O, H0, ow, s1, z, st', rel.grow k1 (okZ o1), o1, e2, ?_⟩
    revert q
    cases out z with
    | nx Γ2 => exact fun q ow' σ' H' a b c => q ow' σ' H' a b (c.pre (rel.keepA k1))
    | rt d => exact fun q => q
theorem s_ifret1 {mc : M Bool} {mA mR : M ρ} (hc : TJ X R Γ c mc) (hA : SJ X R Γ A (fun r => .rt (er r)) mA) (hR : SJ X R Γ rest (fun r => .rt (er r)) mR) :
    SJ X R Γ (.If c A [] pos :: rest) (fun r => .rt (er r)) (bindM mc fun k => if k then mA else mR) := by
  have := s_ifret (pos := pos) (out := fun r => .rt (er r)) (f := id) hc hA (fun r => ⟨_, rfl⟩) (fun _ => rfl) hR
  simpa using this
/-- an if that ends a block -/
theorem s_ifend {mc : M Bool} {mA mB : M κ} (hc : TJ X R Γ c mc) (hA : SJ X R Γ A out mA) (hB : SJ X R Γ B out mB) : SJ X R Γ [.If c A B pos] out (bindM mc fun k => if k then mA else mB) := by
  refine PSs.weak (pss_one (ps_if hc hA hB)) fun D σ H ⟨O, H0, ow, st, z, st', rel, ok, e, q⟩ => ?_
  obtain ⟨b, s1, e1, e2⟩ := bind_some e
  refine ⟨O, H0, ow, st, b, s1, rel, ok, e1, fun H1 k1 o1 => ?_⟩
  have q' : ∀ x, x = out z → (match x with
    | .nx Γ' => ∀ ow' σ' H', Rel R O H0 ow' Γ' σ' H' → okR R st' H' → Step O Γ ow H1 Γ' ow' H' → D.nx σ' H'
    | .rt d => ∀ v H', Keep (Zr R) H0 H' → okR R st' H' → Rp O H' v d → D.rt v H') := by
    rintro x rfl
    revert q
    cases out z with
    | nx Γ2 => exact fun q ow' σ' H' a b c => q ow' σ' H' a b (c.pre (rel.keepA k1))
    | rt d => exact fun q => q
  cases b with
  | true => exact ⟨O, H0, ow, s1, z, st', rel.grow k1 (okZ o1), o1, e2, q' _ rfl⟩
  | false => exact ⟨O, H0, ow, s1, z, st', rel.grow k1 (okZ o1), o1, e2, q' _ rfl⟩
theorem q_if {mc : M Bool} {mA mB : M κ} (hc : TJ X R Γ c mc) (hA : SJ X R Γ A out mA) (hB : SJ X R Γ B out mB) : QJ X R Γ (.If c A B pos) out (bindM mc fun k => if k then mA else mB) := by
  refine PS.weak (ps_if hc hA hB) fun D σ H ⟨O, H0, ow, st, z, st', rel, ok, e, q⟩ => ?_
  obtain ⟨b, s1, e1, e2⟩ := bind_some e
  refine ⟨O, H0, ow, st, b, s1, rel, ok, e1, fun H1 k1 o1 => ?_⟩
  have q' : ∀ x, x = out z → (match x with
    | .nx Γ' => ∀ ow' σ' H', Rel R O H0 ow' Γ' σ' H' → okR R st' H' → Step O Γ ow H1 Γ' ow' H' → D.nx σ' H'
    | .rt d => ∀ v H', Keep (Zr R) H0 H' → okR R st' H' → Rp O H' v d → D.rt v H') := by
    rintro x rfl
    revert q
    cases out z with
    | nx Γ2 => exact fun q ow' σ' H' a b c => q ow' σ' H' a b (c.pre (rel.keepA k1))
    | rt d => exact fun q => q
  cases b with
  | true => exact ⟨O, H0, ow, s1, z, st', rel.grow k1 (okZ o1), o1, e2, q' _ rfl⟩
  | false => exact ⟨O, H0, ow, s1, z, st', rel.grow k1 (okZ o1), o1, e2, q' _ rfl⟩

/-! ### slots set -/
theorem Rel.setFz {O : Av} {H0 H : Hp} {ow : Nat → Addr} {σ : L2.St} (r : Rel R O H0 ow Γ σ H) (i : Nat) {v : V} {d : PyData} (rp : Rp (Pz.avo O Γ ow) H v d) : Rel R O H0 ow (Γ.set i (.fz d)) (σ.set i (some v)) H := by
  have sub : ∀ (j : Nat) (d' : PyData), (Γ.set i (.fz d))[j]? = some (.ow d') → j ≠ i ∧ Γ[j]? = some (.ow d') := fun j d' e => by
    by_cases h : i = j
    · subst h
      rw [List.getElem?_set_self'] at e
      cases h : Γ[i]? <;> rw [h] at e <;> cases e
    · rw [List.getElem?_set_ne h] at e; exact ⟨fun z => h z.symm, e⟩
  have less : ∀ a, Pz.avo O (Γ.set i (.fz d)) ow a → Pz.avo O Γ ow a := fun a z => by
    rcases z with z | ⟨j, d', e, q⟩
    · exact .inl z
    · exact .inr ⟨j, d', (sub j d' e).2, q⟩
  refine ⟨by rw [List.length_set, List.length_set]; exact r.len, fun j d' e => ?_, fun j d' e => ?_, fun j e => ?_, fun j k d1 d2 e1 e2 => r.hinj j k d1 d2 (sub _ _ e1).2 (sub _ _ e2).2, r.same, r.zsub, r.odom⟩
  · by_cases h : i = j
    · subst h
      rw [List.getElem?_set_self'] at e
      cases h : Γ[i]? with
      | none => rw [h] at e; cases e
      | some s =>
        rw [h] at e
        have e' : d = d' := by cases e; rfl
        subst e'
        have hl : i < σ.length := by rw [← r.len]; exact (List.getElem?_eq_some_iff.mp h).1
        exact ⟨v, List.getElem?_set_self hl, rp.less less⟩
    · rw [List.getElem?_set_ne h] at e
      obtain ⟨w, a, b⟩ := r.hfz j d' e
      exact ⟨w, by rw [List.getElem?_set_ne h]; exact a, b.less less⟩
  · obtain ⟨n, e⟩ := sub j d' e
    obtain ⟨a, b, c, f⟩ := r.how j d' e
    refine ⟨by rw [List.getElem?_set_ne fun z => n z.symm]; exact a, ?_, c, f⟩
    cases d' with
    | list ds => obtain ⟨vs, q1, q2⟩ := b; exact ⟨vs, q1, q2.less less⟩
    | _ => exact b.elim
  · by_cases h : i = j
    · subst h
      rw [List.getElem?_set_self'] at e
      cases h : Γ[i]? <;> rw [h] at e <;> cases e
    · rw [List.getElem?_set_ne h] at e
      obtain ⟨a, c, e1, e2⟩ := r.hsrc j e
      exact ⟨a, c, e1, by rw [List.getElem?_set_ne h]; exact e2⟩
theorem Step.setFz {O : Av} {H H' : Hp} {ow : Nat → Addr} (i : Nat) (d : PyData) (k : Keep (Pz.avo O Γ ow) H H') : Step O Γ ow H (Γ.set i (.fz d)) ow H' := ⟨k, fun j d' e => by
  by_cases h : i = j
  · subst h
    rw [List.getElem?_set_self'] at e
    cases h : Γ[i]? <;> rw [h] at e <;> cases e
  · rw [List.getElem?_set_ne h] at e; exact .inl (.inr ⟨j, d', e, rfl⟩)⟩
theorem q_set (i : Nat) {x : Str} {pos' : Pos} {enc : α → PyData} {m : M α} (he : EJ X R Γ e enc m) (hN : X.N.Nodup) (hi : X.N[i]? = some x := by rfl) (hx : Loc X.env.scope x := by first | exact Or.inl rfl | exact Or.inr rfl)
    (hs : swapsWith e (some (.Name x pos')) pos.line X.env = pure false := by rfl) (hf : X.fn x = true ∨ X.env.scope.names.lookup x = some .local := by first | exact .inl rfl | exact .inr rfl) :
    QJ X R Γ (.Assign [.Name x pos'] e pos) (fun r => .nx (Γ.set i (.fz (enc r)))) m := by
  refine PS.weak (ps_set hN hi hx he hs hf) fun D σ H ⟨O, H0, ow, st, z, st', rel, ok, e, q⟩ => ⟨O, H0, ow, st, z, st', rel, ok, e, fun v H' k o rp => ?_⟩
  exact q ow _ H' ((rel.grow k (okZ o)).setFz i rp) o (Step.setFz i _ (rel.keepA k))

/-- a new list at a slot -/
theorem Rel.setOw {O : Av} {H0 H H' : Hp} {ow : Nat → Addr} {σ : L2.St} (r : Rel R O H0 ow Γ σ H) (i : Nat) {p : Addr} {ds : List PyData} {vs : List V} (n : H p = none) (k : Keep (Zr R) H H') (z : ∀ a, Zr R a → H' a ≠ none) (hp : H' p = some (.lst vs)) (rp : RpAll (avp (Pz.avo O Γ ow) p) H' vs ds) :
    Rel R O H0 (fun j => if j = i then p else ow j) (Γ.set i (.ow (.list ds))) (σ.set i (some (.ref p))) H' ∧ Step O Γ ow H (Γ.set i (.ow (.list ds))) (fun j => if j = i then p else ow j) H' := by
  have r' := r.grow k z
  have n1 : ¬ Pz.avo O Γ ow p := r.ad.fresh n
  have n0 : H0 p = none := by
    cases h : H0 p with
    | none => rfl
    | some u =>
      by_cases z1 : Zr R p
      · exact absurd (r.zavo z1) n1
      · rw [r.same p u z1 h] at n; cases n
  have sub : ∀ (j : Nat) (d' : PyData), (Γ.set i (.ow (.list ds)))[j]? = some (.ow d') → (j = i ∧ d' = .list ds ∧ i < Γ.length) ∨ (j ≠ i ∧ Γ[j]? = some (.ow d')) := fun j d' e => by
    by_cases h : i = j
    · subst h
      rw [List.getElem?_set_self'] at e
      cases h : Γ[i]? with
      | none => rw [h] at e; cases e
      | some s => rw [h] at e; refine .inl ⟨rfl, by cases e; rfl, (List.getElem?_eq_some_iff.mp h).1⟩
    · rw [List.getElem?_set_ne h] at e; exact .inr ⟨fun z => h z.symm, e⟩
  have less : ∀ a, Pz.avo O (Γ.set i (.ow (.list ds))) (fun j => if j = i then p else ow j) a → avp (Pz.avo O Γ ow) p a := fun a z => by
    rcases z with z | ⟨j, d', e, q⟩
    · exact .inl (.inl z)
    · rcases sub j d' e with ⟨rfl, _, _⟩ | ⟨n, e⟩
      · simp at q; exact .inr q.symm
      · simp [n] at q; exact .inl (.inr ⟨j, d', e, q⟩)
  have own' : ∀ (j : Nat) (d : PyData), Γ[j]? = some (.ow d) → ow j ≠ p := fun j d e z => n1 (.inr ⟨j, d, e, z⟩)
  have kA := r.keepA k
  refine ⟨⟨by rw [List.length_set, List.length_set]; exact r.len, fun j d' e => ?_, fun j d' e => ?_, fun j e => ?_, fun j k d1 d2 e1 e2 q => ?_, r'.same, r.zsub, r'.odom⟩, ⟨kA, fun j d' e => ?_⟩⟩
  · by_cases h : i = j
    · subst h
      rw [List.getElem?_set_self'] at e
      cases h : Γ[i]? <;> rw [h] at e <;> cases e
    · rw [List.getElem?_set_ne h] at e
      obtain ⟨w, a, b⟩ := r.hfz j d' e
      exact ⟨w, by rw [List.getElem?_set_ne h]; exact a, (b.at (p := p) n kA).less less⟩
  · rcases sub j d' e with ⟨rfl, rfl, hl⟩ | ⟨nj, e⟩
    · have hl' : j < σ.length := by rw [← r.len]; exact hl
      refine ⟨by simp [hl'], ⟨vs, by simp [hp], rp.less less⟩, by simp; exact fun z => n1 (.inl z), by simp [n0]⟩
    · obtain ⟨a, b, c, f⟩ := r.how j d' e
      simp only [nj, if_false]
      refine ⟨by rw [List.getElem?_set_ne fun z => nj z.symm]; exact a, ?_, c, f⟩
      cases d' with
      | list ds =>
        obtain ⟨vs, q1, q2⟩ := b
        exact ⟨vs, k _ _ (fun z => c (r.zsub _ z)) q1, (q2.at (p := p) n kA).less less⟩
      | _ => exact b.elim
  · by_cases h : i = j
    · subst h
      rw [List.getElem?_set_self'] at e
      cases h : Γ[i]? <;> rw [h] at e <;> cases e
    · rw [List.getElem?_set_ne h] at e
      obtain ⟨a, c, e1, e2⟩ := r.hsrc j e
      exact ⟨a, c, e1, by rw [List.getElem?_set_ne h]; exact e2⟩
  · rcases sub j d1 e1 with ⟨rfl, _, _⟩ | ⟨nj, f1⟩ <;> rcases sub k d2 e2 with ⟨rfl, _, _⟩ | ⟨nk, f2⟩
    · rfl
    · simp [nk] at q; exact absurd q.symm (own' k _ f2)
    · simp [nj] at q; exact absurd q (own' j _ f1)
    · simp [nj, nk] at q; exact r.hinj j k _ _ f1 f2 q
  · rcases sub j d' e with ⟨rfl, _, _⟩ | ⟨nj, e⟩
    · simp [n]
    · simp only [nj, if_false]; exact .inl (.inr ⟨j, d', e, rfl⟩)
theorem q_setF (i : Nat) {x : Str} {pos' : Pos} {m : M (List γ)} (he : EF X R Γ e ec m) (hN : X.N.Nodup) (hi : X.N[i]? = some x := by rfl) (hx : Loc X.env.scope x := by first | exact Or.inl rfl | exact Or.inr rfl)
    (hs : swapsWith e (some (.Name x pos')) pos.line X.env = pure false := by rfl) (hf : X.fn x = true ∨ X.env.scope.names.lookup x = some .local := by first | exact .inl rfl | exact .inr rfl) :
    QJ X R Γ (.Assign [.Name x pos'] e pos) (fun r => .nx (Γ.set i (.ow (eL ec r)))) m := by
  refine PS.weak (ps_set hN hi hx he hs hf) fun D σ H ⟨O, H0, ow, st, z, st', rel, ok, e, q⟩ => ⟨O, H0, ow, st, z, st', rel, ok, e, fun p vs H' n k o ep rp => ?_⟩
  obtain ⟨r1, s1⟩ := rel.setOw i n k (okZ o) ep rp
  exact q _ _ H' r1 o s1
end
end Pz

namespace Pz
open PySem PySem.Spec PyProof.Rows L2

section
variable {α β γ κ ρ ι : Type} {ea : α → PyData} {ec : γ → PyData} {er : ρ → PyData} {ei : ι → PyData} {X : Cx} {R : Res} {Γ Γ' : List Slot} {e c : Expr} {st : Stmt} {rest A B : List Stmt} {pos : Pos} {out : κ → OutD}
/-! ### own lists changed -/
theorem set_ow {Γ : List Slot} {i : Nat} {d d0 : PyData} (h : Γ[i]? = some (.ow d0)) {j : Nat} {d' : PyData} (e : (Γ.set i (.ow d))[j]? = some (.ow d')) : (j = i ∧ d' = d) ∨ (j ≠ i ∧ Γ[j]? = some (.ow d')) := by
  by_cases hj : i = j
  · subst hj
    rw [List.getElem?_set_self', h] at e
    cases e
    exact .inl ⟨rfl, rfl⟩
  · rw [List.getElem?_set_ne hj] at e; exact .inr ⟨fun z => hj z.symm, e⟩
theorem Rel.updOw {O : Av} {H0 H : Hp} {ow : Nat → Addr} {σ : L2.St} (r : Rel R O H0 ow Γ σ H) {i : Nat} {d0 : PyData} {ds : List PyData} {vs : List V} (h : Γ[i]? = some (.ow d0)) (rp : RpAll (Pz.avo O Γ ow) H vs ds) :
    Rel R O H0 ow (Γ.set i (.ow (.list ds))) σ (upd H (ow i) (.lst vs)) ∧ Step O Γ ow H (Γ.set i (.ow (.list ds))) ow (upd H (ow i) (.lst vs)) := by
  have av : ∀ a, Pz.avo O (Γ.set i (.ow (.list ds))) ow a → Pz.avo O Γ ow a := fun a z => by
    rcases z with z | ⟨j, d', e, q⟩
    · exact .inl z
    · rcases set_ow h e with ⟨rfl, _⟩ | ⟨_, e⟩
      · exact .inr ⟨j, d0, h, q⟩
      · exact .inr ⟨j, d', e, q⟩
  have k : Keep (Pz.avo O Γ ow) H (upd H (ow i) (.lst vs)) := fun a o n e => by
    rw [upd_ne (fun z => n (.inr ⟨i, d0, h, z.symm⟩))]; exact e
  obtain ⟨hs, _, nO, n0⟩ := r.how i d0 h
  refine ⟨⟨by rw [List.length_set]; exact r.len, fun j d' e => ?_, fun j d' e => ?_, fun j e => ?_, fun j k d1 d2 e1 e2 q => ?_, fun a o z e => ?_, r.zsub, fun a z => ?_⟩, ⟨k, fun j d' e => .inl ?_⟩⟩
  · by_cases hj : i = j
    · subst hj
      rw [List.getElem?_set_self', h] at e; cases e
    · rw [List.getElem?_set_ne hj] at e
      obtain ⟨w, a, b⟩ := r.hfz j d' e
      exact ⟨w, a, (b.keep k).less av⟩
  · rcases set_ow h e with ⟨rfl, rfl⟩ | ⟨nj, e⟩
    · exact ⟨hs, ⟨vs, upd_same, (rp.keep k).less av⟩, nO, n0⟩
    · obtain ⟨a, b, c, f⟩ := r.how j d' e
      refine ⟨a, ?_, c, f⟩
      cases d' with
      | list ds2 =>
        obtain ⟨vs2, q1, q2⟩ := b
        exact ⟨vs2, by rw [upd_ne (fun z => nj (r.hinj j i _ _ e h z))]; exact q1, (q2.keep k).less av⟩
      | _ => exact b.elim
  · by_cases hj : i = j
    · subst hj
      rw [List.getElem?_set_self', h] at e; cases e
    · rw [List.getElem?_set_ne hj] at e
      exact r.hsrc j e
  · rcases set_ow h e1 with ⟨rfl, _⟩ | ⟨_, f1⟩ <;> rcases set_ow h e2 with ⟨rfl, _⟩ | ⟨_, f2⟩
    · rfl
    · exact r.hinj _ _ _ _ h f2 q
    · exact r.hinj _ _ _ _ f1 h q
    · exact r.hinj _ _ _ _ f1 f2 q
  · have e1 := r.same a o z e
    rw [upd_ne (fun q => by rw [q, n0] at e; cases e)]; exact e1
  · by_cases q : a = ow i
    · rw [q]; simp [upd_same]
    · rw [upd_ne q]; exact r.odom a z
  · rcases set_ow h e with ⟨rfl, _⟩ | ⟨_, e⟩
    · exact .inr ⟨j, d0, h, rfl⟩
    · exact .inr ⟨j, d', e, rfl⟩
/-- the draws don't stand in what is owned -/
theorem Rel.okUpd {O : Av} {H0 H : Hp} {ow : Nat → Addr} {σ : L2.St} {u : Src} (r : Rel R O H0 ow Γ σ H) (ok : okR R u H) {i : Nat} {d0 : PyData} {o : HO} (h : Γ[i]? = some (.ow d0)) : okR R u (upd H (ow i) o) :=
  ok.keep fun a o' z e => by
    rw [upd_ne (fun q => (r.how i d0 h).2.2.1 (by rw [← q]; exact r.zsub a z))]; exact e
def appM {α : Type} (xs : List α) (x : α) : M (List α) := if xs.length < sizeLine then pureM (xs ++ [x]) else failM
def extM {α : Type} (xs ys : List α) : M (List α) := if xs.length + ys.length ≤ sizeLine then pureM (xs ++ ys) else failM
theorem if_some {α : Type} {c : Prop} [Decidable c] {a b : α} {s t : Src} (h : (if c then pureM a else failM) s = some (b, t)) : c ∧ a = b ∧ s = t := by
  by_cases hc : c
  · rw [if_pos hc] at h; exact ⟨hc, pure_some h⟩
  · rw [if_neg hc] at h; cases h
theorem tyL {K : PySem.W.Frag} {H : Hp} {p : Addr} {vs : List V} (h : H p = some (.lst vs)) : tyV K "list" (.ref p) H := Or.inl ⟨rfl, _, Or.inl (Or.inl h)⟩
theorem q_app (i : Nat) {x : Str} {p1 p2 p3 : Pos} (xs : List γ) {m : M γ} (he : EJ X R Γ e ec m) (hΓ : Γ[i]? = some (.ow (eL ec xs)) := by rfl) (hN : X.N[i]? = some x := by rfl)
    (hv : Vis X.env.scope x := by first | exact Or.inl rfl | exact Or.inr (Or.inl rfl) | exact Or.inr (Or.inr rfl))
    (hd : (x == ("__debug__" : Str)) = false := by decide) (hcd : (x == ("__classdict__" : Str)) = false := by decide)
    (hbase : attributeBase (.Name x p1) "append" X.env (eval (.Name x p1) X.env) = eval (.Name x p1) X.env := by rfl)
    (hfew : ((backTo p3 (starEach [e] X.env)).all (fun x => !x.1) && (backToKw p3 (keywordEach [] X.env)).all (fun x => x.1.isSome)
      && decide (([e] : List Expr).length + ([] : List Keyword).length + (if ([] : List Keyword).isEmpty then 0 else 1) < 30)) = true := by rfl)
    (hline : (p2.endLine == p3.line) = true := by rfl) (hs : starEach [e] X.env = (false, eval e X.env) :: starEach [] X.env := by rfl)
    (hsw : swapsWith (.Call (.Attribute (.Name x p1) "append" p2) [e] [] p3) none pos.line X.env = pure false := by rfl) :
    QJ X R Γ (.Expr (.Call (.Attribute (.Name x p1) "append" p2) [e] [] p3) pos) (fun b => .nx (Γ.set i (.ow (eL ec b)))) (bindM m fun y => appM xs y) := by
  refine PS.weak (ps_expr (pe_bm PySem.F.plainAttrs_list PySem.F.slot_list_append PySem.F.type_list_append mt_append (pe_var hN hv hd hcd) (pa_cons he pa_nil hs) hbase hfew hline hs rfl) hsw) fun D σ H ⟨O, H0, ow, st, z, st', rel, ok, e, q⟩ => ?_
  obtain ⟨y, s1, e1, e2⟩ := bind_some e
  obtain ⟨hl, rfl, rfl⟩ := if_some e2
  obtain ⟨hσ, ⟨vs, hp, rv⟩, nO, n0⟩ := rel.how i _ hΓ
  refine ⟨_, hσ, tyL hp, O, H0, ow, st, y, s1, rel, ok, e1, fun v H1 k o rp => ?_⟩
  have rel1 := rel.grow k (okZ o)
  have hp1 : H1 (ow i) = some (.lst vs) := k _ _ (fun z => nO (rel.zsub _ z)) hp
  refine ⟨ow i, vs, v, rfl, rfl, hp1, by rw [rv.length, List.length_map]; exact hl, ?_⟩
  have rv1 : RpAll (avo O Γ ow) H1 (vs ++ [v]) ((xs ++ [y]).map ec) := by
    rw [List.map_append]; exact (rv.keep (rel.keepA k)).append (.cons rp .nil)
  obtain ⟨r2, s2⟩ := rel1.updOw hΓ rv1
  exact q ow σ _ r2 (rel1.okUpd o hΓ) (s2.pre (rel.keepA k))
theorem q_ext (i : Nat) {x : Str} {p1 p2 p3 : Pos} (xs : List γ) {m : M (List γ)} (he : EJ X R Γ e (eL ec) m) (hΓ : Γ[i]? = some (.ow (eL ec xs)) := by rfl) (hN : X.N[i]? = some x := by rfl)
    (hv : Vis X.env.scope x := by first | exact Or.inl rfl | exact Or.inr (Or.inl rfl) | exact Or.inr (Or.inr rfl))
    (hd : (x == ("__debug__" : Str)) = false := by decide) (hcd : (x == ("__classdict__" : Str)) = false := by decide)
    (hbase : attributeBase (.Name x p1) "extend" X.env (eval (.Name x p1) X.env) = eval (.Name x p1) X.env := by rfl)
    (hfew : ((backTo p3 (starEach [e] X.env)).all (fun x => !x.1) && (backToKw p3 (keywordEach [] X.env)).all (fun x => x.1.isSome)
      && decide (([e] : List Expr).length + ([] : List Keyword).length + (if ([] : List Keyword).isEmpty then 0 else 1) < 30)) = true := by rfl)
    (hline : (p2.endLine == p3.line) = true := by rfl) (hs : starEach [e] X.env = (false, eval e X.env) :: starEach [] X.env := by rfl)
    (hsw : swapsWith (.Call (.Attribute (.Name x p1) "extend" p2) [e] [] p3) none pos.line X.env = pure false := by rfl) :
    QJ X R Γ (.Expr (.Call (.Attribute (.Name x p1) "extend" p2) [e] [] p3) pos) (fun b => .nx (Γ.set i (.ow (eL ec b)))) (bindM m fun y => extM xs y) := by
  refine PS.weak (ps_expr (pe_bm PySem.F.plainAttrs_list PySem.F.slot_list_extend PySem.F.type_list_extend mt_extend (pe_var hN hv hd hcd) (pa_cons he pa_nil hs) hbase hfew hline hs rfl) hsw) fun D σ H ⟨O, H0, ow, st, z, st', rel, ok, e, q⟩ => ?_
  obtain ⟨y, s1, e1, e2⟩ := bind_some e
  obtain ⟨hl, rfl, rfl⟩ := if_some e2
  obtain ⟨hσ, ⟨vs, hp, rv⟩, nO, n0⟩ := rel.how i _ hΓ
  refine ⟨_, hσ, tyL hp, O, H0, ow, st, y, s1, rel, ok, e1, fun v H1 k o rp => ?_⟩
  have rel1 := rel.grow k (okZ o)
  have hp1 : H1 (ow i) = some (.lst vs) := k _ _ (fun z => nO (rel.zsub _ z)) hp
  cases rp with
  | @lst b zs _ nb hb rb =>
    refine ⟨ow i, b, vs, zs, rfl, rfl, hp1, hb, by rw [rv.length, rb.length, List.length_map, List.length_map]; exact hl, ?_⟩
    have rv1 : RpAll (avo O Γ ow) H1 (vs ++ zs) ((xs ++ y).map ec) := by
      rw [List.map_append]; exact (rv.keep (rel.keepA k)).append rb
    obtain ⟨r2, s2⟩ := rel1.updOw hΓ rv1
    exact q ow σ _ r2 (rel1.okUpd o hΓ) (s2.pre (rel.keepA k))

/-! ### an own list is read: nothing of it goes on -/
mutual
def noL : PyData → Bool
  | .list _ => false
  | .dict _ => false
  | .tuple ds => noLs ds
  | _ => true
def noLs : List PyData → Bool
  | [] => true
  | d :: ds => noL d && noLs ds
end
mutual
theorem noL_rp {A A' : Av} {H : Hp} (ht : ∀ a xs, ¬ A a → H a = some (.tup xs) → ¬ A' a) : ∀ (d : PyData) (v : V), noL d = true → Rp A H v d → Rp A' H v d
  | .none, _, _, r => by cases r; exact .non
  | .bool b, _, _, r => by cases r; exact .bl b
  | .int i, _, _, r => by cases r; exact .int i
  | .str x, _, _, r => by cases r; exact .str x
  | .list _, _, h, _ => by simp [noL] at h
  | .tuple ds, _, h, r => by
    cases r with
    | tup h1 h2 h3 => exact .tup (ht _ _ h1 h2) h2 (noLs_rp ht ds _ (by simpa [noL] using h) h3)
  | .dict _, _, h, _ => by simp [noL] at h
theorem noLs_rp {A A' : Av} {H : Hp} (ht : ∀ a xs, ¬ A a → H a = some (.tup xs) → ¬ A' a) : ∀ (ds : List PyData) (vs : List V), noLs ds = true → RpAll A H vs ds → RpAll A' H vs ds
  | [], _, _, r => by cases r; exact .nil
  | d :: ds, _, h, r => by
    simp only [noLs, Bool.and_eq_true] at h
    cases r with
    | cons h1 h2 => exact .cons (noL_rp ht d _ h.1 h1) (noLs_rp ht ds _ h.2 h2)
end
def NL {α : Type} (e : α → PyData) : Prop := ∀ x, noL (e x) = true
theorem NL.int : NL eInt := fun _ => rfl
theorem NL.bool : NL eBool := fun _ => rfl
theorem NL.str : NL eStr := fun _ => rfl
theorem NL.non : NL eNon := fun _ => rfl
theorem NL.all {e : α → PyData} (h : NL e) : ∀ xs : List α, noLs (xs.map e) = true
  | [] => rfl
  | x :: xs => by simp [noLs, h x, NL.all h xs]
theorem NL.tup {e : α → PyData} (h : NL e) : NL (eT e) := fun xs => by simp [eT, noL, NL.all h xs]
theorem NL.opt {e : α → PyData} (h : NL e) : NL (eO e) := fun x => by cases x with
  | none => rfl
  | some x => exact h x
def NLs {α : Type} (f : α → List PyData) : Prop := ∀ x, noLs (f x) = true
theorem NLs.nil : NLs eU := fun _ => rfl
theorem NLs.cons {e : α → PyData} {f : β → List PyData} (h : NL e) (k : NLs f) : NLs (eC e f) := fun p => by simp [eC, noLs, h p.1, k p.2]
theorem NL.pr {f : α → List PyData} (h : NLs f) : NL (eP f) := fun p => by simp [eP, noL, h p]
theorem set_fz {Γ : List Slot} {i : Nat} {d d0 : PyData} (h : Γ[i]? = some (.ow d0)) {a : Addr} {O : Av} {ow : Nat → Addr} (z : avo O Γ ow a) : avo O (Γ.set i (.fz d)) ow a ∨ a = ow i := by
  rcases z with z | ⟨j, d', e, q⟩
  · exact .inl (.inl z)
  · by_cases hj : i = j
    · subst hj; exact .inr q.symm
    · exact .inl (.inr ⟨j, d', by rw [List.getElem?_set_ne hj]; exact e, q⟩)
theorem low_fr {Γ : List Slot} : ∀ {i : Nat} {d : PyData}, Γ[i]? = some (.ow d) → Low Γ (Γ.set i (.fz d)) := by
  induction Γ with
  | nil => intro i d h; simp at h
  | cons s r ih =>
    intro i d h
    cases i with
    | zero => simp at h; subst h; exact .fr (Low.refl r)
    | succ i => exact .eq (ih (by simpa using h))
/-- slot i, an own list, read in e; what comes out has no list in it -/
theorem e_borrow (i : Nat) {d : PyData} {enc : α → PyData} {m : M α} (h : EJ X R (Γ.set i (.fz d)) e enc m) (hn : NL enc) (hΓ : Γ[i]? = some (.ow d) := by rfl) : EJ X R Γ e enc m := by
  refine PE.weak h fun σ H Q ⟨O, H0, ow, st, z, st', rel, ok, e, q⟩ => ⟨O, H0, ow, st, z, st', rel.low (low_fr hΓ), ok, e, fun v H' k o rp => q v H' k o ?_⟩
  obtain ⟨_, hown, nO, _⟩ := rel.how i _ hΓ
  refine noL_rp (fun a xs na ha za => ?_) _ _ (hn z) rp
  rcases set_fz (d := d) hΓ za with z1 | z1
  · exact na z1
  · cases d with
    | list ds =>
      obtain ⟨vs, hp, _⟩ := hown
      have := k _ _ (fun z => nO (rel.zsub _ z)) hp
      rw [← z1, ha] at this; cases this
    | _ => exact hown.elim
theorem f_borrow (i : Nat) {d : PyData} {m : M (List α)} (h : EF X R (Γ.set i (.fz d)) e ea m) (hn : NL ea) (hΓ : Γ[i]? = some (.ow d) := by rfl) : EF X R Γ e ea m := by
  refine PE.weak h fun σ H Q ⟨O, H0, ow, st, z, st', rel, ok, e, q⟩ => ⟨O, H0, ow, st, z, st', rel.low (low_fr hΓ), ok, e, fun p vs H' n k o ep rp => q p vs H' n k o ep ?_⟩
  obtain ⟨_, hown, nO, _⟩ := rel.how i _ hΓ
  refine noLs_rp (fun a xs na ha za => ?_) _ _ (NL.all hn z) rp
  rcases za with za | za
  · rcases set_fz (d := d) hΓ za with z1 | z1
    · exact na (.inl z1)
    · cases d with
      | list ds =>
        obtain ⟨vs, hp, _⟩ := hown
        have := k _ _ (fun z => nO (rel.zsub _ z)) hp
        rw [← z1, ha] at this; cases this
      | _ => exact hown.elim
  · exact na (.inr za)
theorem t_borrow (i : Nat) {d : PyData} {m : M Bool} (h : TJ X R (Γ.set i (.fz d)) e m) (hΓ : Γ[i]? = some (.ow d) := by rfl) : TJ X R Γ e m :=
  PT.weak h fun σ H Q ⟨O, H0, ow, st, z, st', rel, ok, e, q⟩ => ⟨O, H0, ow, st, z, st', rel.low (low_fr hΓ), ok, e, q⟩

/-! ### what is walked -/
def ItOk (J : It) (A : Av) (H1 : Hp) (ds : List PyData) : Prop := ∀ H i, Keep A H1 H → (ds.length ≤ i → J.stop i H) ∧ ∀ d, ds[i]? = some d → J.go i H ∧ ∀ v H', J.yld i H v H' → Same H H' ∧
  ∀ A', (∀ a o, ¬ A a → H1 a = some o → ¬ A' a) → Adom A' H → Rp A' H' v d
def tI (R : Res) (Γ : List Slot) (enc : ι → PyData) (m : M (List ι)) : TI := fun σ H Rr => ∃ O H0 ow st r st', Rel R O H0 ow Γ σ H ∧ okR R st H ∧ m st = some (r, st') ∧
  ∀ J H1, Keep (Zr R) H H1 → okR R st' H1 → r.length ≤ sizeLine → ItOk J (avo O Γ ow) H1 (r.map enc) → Rr J H1
abbrev IJ (X : Cx) (R : Res) (Γ : List Slot) (iter tg : Expr) (enc : ι → PyData) (m : M (List ι)) : Prop := PI X tg iter (tI R Γ enc m)
theorem PI.weak {tg iter : Expr} {t t' : TI} (h : PI X tg iter t) (w : ∀ σ H Rr, t' σ H Rr → t σ H Rr) : PI X tg iter t' := ⟨fun pins s σ H Rr I q => h.run pins s σ H Rr I (w σ H Rr q)⟩
def Fits (H : Hp) : Prop := ∀ a xs, (H a = some (.lst xs) ∨ H a = some (.tup xs)) → xs.length ≤ sizeLine
theorem Inv.fits {pins : List (Addr × Obj)} {σ : L2.St} {H : Hp} {s : Shared} (I : Inv X pins σ H s) : Fits H := fun a xs h => by
  rcases h with h | h
  · obtain ⟨z, _⟩ := I.hok a _ h; exact z
  · obtain ⟨z, _⟩ := I.hok a _ h; exact z
theorem PI.fits {tg iter : Expr} {t : TI} (h : PI X tg iter t) : PI X tg iter (fun σ H Rr => t σ H fun J H1 => Fits H1 → Rr J H1) := ⟨fun pins s σ H Rr I q =>
  thn (h.run pins s σ H _ I q) fun v s1 w => thn w fun itv s2 ⟨it, fp, tn, J, H', a, b, c, d, f, g⟩ => ⟨it, fp, tn, J, H', a, b, c, d, f, g (Inv.fits b)⟩⟩
theorem PE.fits {t : TE} (h : PE X e t) : PE X e (fun σ H Q => t σ H fun v H1 => Fits H1 → Q v H1) := ⟨fun pins s σ H Q I q =>
  thn (h.run pins s σ H _ I q) fun v s1 ⟨x, H', a, b, c⟩ => ⟨x, H', a, b, c (Inv.fits a)⟩⟩
/-- what the items of a list or a tuple say -/
theorem items_ok {A A' : Av} {H1 H : Hp} {vs : List V} {ds : List PyData} (r : RpAll A H1 vs ds) (k : Keep A H1 H) {i : Nat} {v : V} {d : PyData} (hv : vs[i]? = some v) (hd : ds[i]? = some d) (h : ∀ a o, ¬ A a → H1 a = some o → ¬ A' a) : Rp A' H v d := by
  obtain ⟨w, hw, rw'⟩ := r.get hd
  rw [hv] at hw; cases hw
  exact Rp.move (fun a o na e => ⟨h a o na e, k a o na e⟩) d v rw'
theorem itok_list {K : PySem.W.Frag} {A : Av} {H1 : Hp} {a : Addr} {vs : List V} {ds : List PyData} (na : ¬ A a) (ha : H1 a = some (.lst vs)) (r : RpAll A H1 vs ds) : ItOk (Itl K a) A H1 ds := fun H i k => by
  have hH := k _ _ na ha
  refine ⟨fun hl => ⟨vs, SqL.of hH, by rw [r.length]; exact hl⟩, fun d hd => ?_⟩
  obtain ⟨v0, hv0, _⟩ := r.get hd
  refine ⟨⟨vs, v0, SqL.of hH, hv0⟩, fun v H' y => ?_⟩
  obtain ⟨rfl, hy⟩ := y
  refine ⟨Same.refl _, fun A' h _ => ?_⟩
  have : v0 = v := Option.some.inj (hv0.symm.trans (hy vs (SqL.of hH)))
  subst this
  exact items_ok r k hv0 hd h
theorem itok_tup {K : PySem.W.Frag} {A : Av} {H1 : Hp} {a : Addr} {vs : List V} {ds : List PyData} (na : ¬ A a) (ha : H1 a = some (.tup vs)) (r : RpAll A H1 vs ds) : ItOk (Itt K a) A H1 ds := fun H i k => by
  have hH := k _ _ na ha
  refine ⟨fun hl => ⟨vs, SqT.of hH, by rw [r.length]; exact hl⟩, fun d hd => ?_⟩
  obtain ⟨v0, hv0, _⟩ := r.get hd
  refine ⟨⟨vs, v0, SqT.of hH, hv0⟩, fun v H' y => ?_⟩
  obtain ⟨rfl, hy⟩ := y
  refine ⟨Same.refl _, fun A' h _ => ?_⟩
  have : v0 = v := Option.some.inj (hv0.symm.trans (hy vs (SqT.of hH)))
  subst this
  exact items_ok r k hv0 hd h
theorem i_list {tg : Expr} {enc : ι → PyData} {m : M (List ι)} (h : EJ X R Γ e (eL enc) m) : IJ X R Γ e tg enc m := by
  refine PI.weak (PI.fits (pi_list h)) fun σ H Rr ⟨O, H0, ow, st, z, st', rel, ok, e, q⟩ => ⟨O, H0, ow, st, z, st', rel, ok, e, fun v H1 k o rp => ?_⟩
  cases rp with
  | @lst a vs _ na ha ra =>
    exact ⟨a, rfl, ⟨vs, SqL.of ha⟩, fun fit => q _ H1 k o (by have := fit a vs (.inl ha); rw [ra.length, List.length_map] at this; exact this) (itok_list na ha ra)⟩
end
end Pz

namespace Pz
open PySem PySem.Spec PyProof.Rows L2

section
variable {α β γ κ ρ ι : Type} {ea : α → PyData} {ec : γ → PyData} {er : ρ → PyData} {ei : ι → PyData} {X : Cx} {R : Res} {Γ Γ' : List Slot} {e c : Expr} {st : Stmt} {rest A B : List Stmt} {pos : Pos} {out : κ → OutD}
theorem i_tup {tg : Expr} {enc : ι → PyData} {m : M (List ι)} (h : EJ X R Γ e (eT enc) m) : IJ X R Γ e tg enc m := by
  refine PI.weak (PI.fits (pi_tup h)) fun σ H Rr ⟨O, H0, ow, st, z, st', rel, ok, e, q⟩ => ⟨O, H0, ow, st, z, st', rel, ok, e, fun v H1 k o rp => ?_⟩
  cases rp with
  | @tup a vs _ na ha ra =>
    exact ⟨a, rfl, ⟨vs, SqT.of ha⟩, fun fit => q _ H1 k o (by have := fit a vs (.inr ha); rw [ra.length, List.length_map] at this; exact this) (itok_tup na ha ra)⟩
/-- lo, lo + 1, .. below hi -/
def irange (lo hi : Int) : List Int := (List.range (hi - lo).toNat).map fun i => lo + (i : Nat)
def rangeM (lo hi : Int) : M (List Int) := if -(2 ^ 61) ≤ lo ∧ lo ≤ 2 ^ 61 ∧ -(2 ^ 61) ≤ hi ∧ hi ≤ 2 ^ 61 ∧ (hi - lo).toNat ≤ sizeLine then pureM (irange lo hi) else failM
theorem itok_range {A : Av} {H1 : Hp} (lo : Int) (n : Nat) : ItOk (Itr lo n) A H1 (((List.range n).map fun i => lo + (i : Nat)).map eInt) := fun H i k => by
  refine ⟨fun hl => (by simpa using hl : n ≤ i), fun d hd => ?_⟩
  rw [List.getElem?_map, List.getElem?_map] at hd
  cases hr : (List.range n)[i]? with
  | none => rw [hr] at hd; cases hd
  | some j =>
    rw [hr] at hd
    have hi : i < n := by have := (List.getElem?_eq_some_iff.mp hr).1; simpa using this
    have hj : j = i := by rw [List.getElem?_range hi] at hr; cases hr; rfl
    subst hj
    have hd' : eInt (lo + (j : Nat)) = d := Option.some.inj hd
    subst hd'
    refine ⟨hi, fun v H' y => ?_⟩
    obtain ⟨rfl, rfl⟩ := y
    exact ⟨Same.refl _, fun A' _ _ => .int _⟩
theorem i_range1 {tg a : Expr} {p : Pos} {m : M Int} (hm : X.mg "range" = none) (ha : EJ X R Γ a eInt m) (hg : Gl X "range" := by rfl) (hs : starEach [a] X.env = [(false, eval a X.env)] := by rfl) : IJ X R Γ (.Call (.Name "range" p) [a] [] pos) tg eInt (bindM m fun n => rangeM 0 n) := by
  refine PI.weak (pi_range1 hg hm (pa_cons ha pa_nil hs) hs) fun σ H Rr ⟨O, H0, ow, st, z, st', rel, ok, e, q⟩ => ?_
  obtain ⟨n, s1, e1, e2⟩ := bind_some e
  unfold rangeM at e2
  obtain ⟨⟨h1, h2, h3, h4, h5⟩, rfl, rfl⟩ := if_some e2
  refine ⟨O, H0, ow, st, n, s1, rel, ok, e1, fun v H1 k o rp => ?_⟩
  cases rp
  refine ⟨n, rfl, by omega, by omega, q _ H1 k o (by simp [irange]; omega) ?_⟩
  have := itok_range (A := avo O Γ ow) (H1 := H1) 0 n.toNat
  simpa [irange] using this
theorem i_range2 {tg a b : Expr} {p : Pos} {ma mb : M Int} (hm : X.mg "range" = none) (ha : EJ X R Γ a eInt ma) (hb : EJ X R Γ b eInt mb) (hg : Gl X "range" := by rfl) (hs : starEach [a, b] X.env = [(false, eval a X.env), (false, eval b X.env)] := by rfl) (hs2 : starEach [b] X.env = [(false, eval b X.env)] := by rfl) :
    IJ X R Γ (.Call (.Name "range" p) [a, b] [] pos) tg eInt (bindM ma fun lo => bindM mb fun hi => rangeM lo hi) := by
  refine PI.weak (pi_range2 hg hm (pa_cons ha (pa_cons hb pa_nil hs2) (by rw [hs, hs2])) hs hs2) fun σ H Rr ⟨O, H0, ow, st, z, st', rel, ok, e, q⟩ => ?_
  obtain ⟨lo, s1, e1, e'⟩ := bind_some e
  obtain ⟨hi, s2, e2, e3⟩ := bind_some e'
  unfold rangeM at e3
  obtain ⟨⟨h1, h2, h3, h4, h5⟩, rfl, rfl⟩ := if_some e3
  refine ⟨O, H0, ow, st, lo, s1, rel, ok, e1, fun v H1 k o rp => ?_⟩
  cases rp
  refine ⟨O, H0, ow, s1, hi, s2, rel.grow k (okZ o), o, e2, fun v H2 k2 o2 rp => ?_⟩
  cases rp
  refine ⟨lo, hi, rfl, ⟨by omega, by omega, by omega, by omega⟩, q _ H2 (k.trans k2) o2 (by simp [irange]; omega) ?_⟩
  exact itok_range (A := avo O Γ ow) (H1 := H2) lo (hi - lo).toNat
theorem i_low {tg : Expr} {enc : ι → PyData} {m : M (List ι)} (hl : Low Γ Γ') (h : IJ X R Γ' e tg enc m) (hn : ∀ (i : Nat) (d : PyData), Γ[i]? = some (.ow d) → Γ'[i]? = some (.ow d)) : IJ X R Γ e tg enc m :=
  PI.weak h fun σ H Rr ⟨O, H0, ow, st, z, st', rel, ok, e, q⟩ => ⟨O, H0, ow, st, z, st', rel.low hl, ok, e, fun J H1 k o l it => q J H1 k o l (by
    have : avo O Γ' ow = avo O Γ ow := funext fun a => propext ⟨hl.avo a, fun z => by
      rcases z with z | ⟨i, d, e1, e2⟩
      · exact .inl z
      · exact .inr ⟨i, d, hn i d e1, e2⟩⟩
    rw [← this]; exact it)⟩

/-! ### targets -/
/-- what a target does with x: the slots; is: the places it sets -/
def tG (set : List Slot → ι → List Slot) (is : List Nat) (enc : ι → PyData) : TG := fun v σ H Q => ∃ R O H0 ow Γ x, Rel R O H0 ow Γ σ H ∧ Rp (avo O Γ ow) H v (enc x) ∧
  ∀ σ', Rel R O H0 ow (set Γ x) σ' H → (∀ vs : List Nat, (∀ i ∈ is, i ∈ vs) → wipe σ' vs = wipe σ vs) → Q σ' H
abbrev GJ (X : Cx) (tg : Expr) (set : List Slot → ι → List Slot) (is : List Nat) (enc : ι → PyData) : Prop := PG X tg (tG set is enc)
theorem wipe_at {σ : L2.St} : ∀ {vs : List Nat} {i : Nat} {y : Option V}, i ∈ vs → wipe (σ.set i y) vs = wipe σ vs
  | [], _, _, h => by simp at h
  | v :: vs, i, y, h => by
    unfold wipe
    by_cases hm : i ∈ vs
    · rw [wipe_at hm]
    · have hv : i = v := by rcases List.mem_cons.mp h with e | e; exact e; exact absurd e hm
      subst hv
      have aux : ∀ ws : List Nat, (wipe (σ.set i y) ws).set i none = (wipe σ ws).set i none := by
        intro ws
        induction ws with
        | nil => unfold wipe; rw [List.set_set]
        | cons w ws ih =>
          unfold wipe
          by_cases hw : w = i
          · subst hw; rw [List.set_set, List.set_set]; exact ih
          · rw [List.set_comm _ _ hw, ih, List.set_comm _ _ (fun z => hw z.symm)]
      exact aux vs
theorem g_name (i : Nat) {x : Str} (enc : ι → PyData) (hN : X.N.Nodup) (hi : X.N[i]? = some x := by rfl) (hx : Loc X.env.scope x := by first | exact Or.inl rfl | exact Or.inr rfl)
    (hf : X.fn x = true ∨ X.env.scope.names.lookup x = some .local := by first | exact .inl rfl | exact .inr rfl) : GJ X (.Name x pos) (fun Γ y => Γ.set i (.fz (enc y))) [i] enc := by
  refine PG.weak (pg_name hN hi hx hf) fun v σ H Q ⟨R, O, H0, ow, Γ, x, rel, rp, q⟩ => ?_
  exact q _ (rel.setFz i rp) fun vs hv => wipe_at (hv i (List.mem_singleton.mpr rfl))
/-- targets one after the other -/
def tGs {α : Type} (set : List Slot → α → List Slot) (is : List Nat) (enc : α → List PyData) : TGs := fun vs σ H Q => ∃ R O H0 ow Γ x, Rel R O H0 ow Γ σ H ∧ RpAll (avo O Γ ow) H vs (enc x) ∧
  ∀ σ', Rel R O H0 ow (set Γ x) σ' H → (∀ vs : List Nat, (∀ i ∈ is, i ∈ vs) → wipe σ' vs = wipe σ vs) → Q σ' H
theorem PGs.weak {es : List Expr} {t t' : TGs} (h : PGs X es t) (w : ∀ vs σ H Q, t' vs σ H Q → t vs σ H Q) : PGs X es t' := ⟨fun pins s σ H vs us Q I r q => h.run pins s σ H vs us Q I r (w vs σ H Q q)⟩
theorem gs_nil : PGs X [] (tGs (fun Γ (_ : Unit) => Γ) [] eU) := by
  refine PGs.weak pgs_nil fun vs σ H Q ⟨R, O, H0, ow, Γ, x, rel, rp, q⟩ => ?_
  cases rp
  exact ⟨rfl, q σ rel fun _ _ => rfl⟩
theorem gs_cons {tg : Expr} {es : List Expr} {s1 : List Slot → α → List Slot} {s2 : List Slot → β → List Slot} {is js : List Nat} {enc : α → PyData} {en : β → List PyData} (h1 : GJ X tg s1 is enc) (h2 : PGs X es (tGs s2 js en)) (hset : ∀ Γ x (i : Nat) d, (s1 Γ x)[i]? = some (.ow d) → Γ[i]? = some (.ow d))
    (hs : (assignEach (tg :: es) X.env).map (·.2) = assign tg X.env :: (assignEach es X.env).map (·.2) := by rfl) : PGs X (tg :: es) (tGs (fun Γ (p : α × β) => s2 (s1 Γ p.1) p.2) (is ++ js) (eC enc en)) := by
  refine PGs.weak (pgs_cons h1 h2 hs) fun vs σ H Q ⟨R, O, H0, ow, Γ, x, rel, rp, q⟩ => ?_
  cases rp with
  | @cons v vs d ds r1 r2 =>
    refine ⟨v, vs, rfl, R, O, H0, ow, Γ, x.1, rel, r1, fun σ' rel' w' => ⟨R, O, H0, ow, _, x.2, rel', ?_, fun σ2 rel2 w2 => q σ2 rel2 fun vs hv => ?_⟩⟩
    · exact r2.less fun a z => by
        rcases z with z | ⟨i, d, e1, e2⟩
        · exact .inl z
        · exact .inr ⟨i, d, hset _ _ _ _ e1, e2⟩
    · rw [w2 vs fun i hi => hv i (List.mem_append_right _ hi), w' vs fun i hi => hv i (List.mem_append_left _ hi)]
theorem set_noow {Γ : List Slot} {i : Nat} {d' : PyData} : ∀ (j : Nat) (d : PyData), (Γ.set i (.fz d'))[j]? = some (.ow d) → Γ[j]? = some (.ow d) := fun j d e => by
  by_cases h : i = j
  · subst h
    rw [List.getElem?_set_self'] at e
    cases h : Γ[i]? <;> rw [h] at e <;> cases e
  · rw [List.getElem?_set_ne h] at e; exact e
theorem g_tup {es : List Expr} {k n : Nat} {set : List Slot → α → List Slot} {is : List Nat} {en : α → List PyData} (hc : X.calm = true) (h : PGs X es (tGs set is en)) (hl : ∀ x, (en x).length = n := by intro _; rfl) (hn : (assignEach es X.env).length = n := by rfl)
    (hst : (assignEach es X.env).findIdx? (·.1) = none := by rfl) : GJ X (.Tuple es k pos) set is (eP en) := by
  refine PG.weak (pg_tup hc h hn hst) fun v σ H Q ⟨R, O, H0, ow, Γ, x, rel, rp, q⟩ => ?_
  cases rp with
  | @tup a vs _ na ha ra =>
    exact ⟨a, vs, rfl, SqT.of ha, by rw [ra.length]; exact hl x, R, O, H0, ow, Γ, x, rel, ra, q⟩

/-! ### for -/
theorem q_for {set : List Slot → ι → List Slot} {is : List Nat} {tg iter : Expr} {body : List Stmt} {mi : M (List ι)} (Γb : β → List Slot) (b0 : β) (f : β → ι → M β) (hp : PassesOwn (model X.prog X.w) X.A X.env X.xe) (hc : X.calm = true)
    (hi : IJ X R Γ iter tg ei mi) (hg : GJ X tg set is ei) (hset : ∀ Γ x (i : Nat) d, (set Γ x)[i]? = some (.ow d) → Γ[i]? = some (.ow d)) (hlow : Low Γ (Γb b0))
    (hb : ∀ b x, SJ X R (set (Γb b) x) body (fun b' => .nx (Γb b')) (f b x)) (hs : ∀ x, foldedSetIterable iter X.env x = pure x := by intro _; rfl) :
    QJ X R Γ (.For tg iter body [] pos) (fun b => .nx (Γb b)) (bindM mi fun xs => forM' f xs b0) := by
  refine PS.weak (ps_for hp hc hi hg (PSs.ex fun b => PSs.ex fun x => hb b x) hs) fun D σ H ⟨O, H0, ow, st, bf, stf, rel, ok, e, q⟩ => ?_
  obtain ⟨xs, s1, e1, e2⟩ := bind_some e
  refine ⟨O, H0, ow, st, xs, s1, rel, ok, e1, fun J H1 k1 o1 hlen it => ?_⟩
  have rel1 := rel.grow k1 (okZ o1)
  refine ⟨fun i m σ' H' => m = xs.length - i ∧ i ≤ xs.length ∧ ∃ b u ow', Rel R O H0 ow' (Γb b) σ' H' ∧ okR R u H' ∧ forM' f (xs.drop i) b u = some (bf, stf) ∧ Step O Γ ow H1 (Γb b) ow' H', ⟨_, rfl, Nat.zero_le _, b0, s1, ow, rel1.low hlow, o1, e2, Step.refl.lowR hlow⟩, ?_⟩
  rintro i m σ' H' ⟨rfl, hile, b, u, ow', rel', ok', ef, sp⟩
  obtain ⟨stop, go⟩ := it H' i sp.keep
  by_cases hlt : i < xs.length
  · have hx : xs[i]? = some xs[i] := List.getElem?_eq_getElem hlt
    obtain ⟨hgo, hy⟩ := go (ei xs[i]) (by rw [List.getElem?_map, hx]; rfl)
    rw [List.drop_eq_getElem_cons hlt] at ef
    obtain ⟨b2, u2, ef1, ef2⟩ := bind_some (show bindM (f b xs[i]) (fun b' => forM' f (xs.drop (i + 1)) b') u = some (bf, stf) from ef)
    refine .inr ⟨hgo, fun σ2 H2 => ∃ ow2, Rel R O H0 ow2 (Γb b2) σ2 H2 ∧ okR R u2 H2 ∧ Step O Γ ow H1 (Γb b2) ow2 H2, fun σ2 H2 ⟨ow2, r2, o2, p2⟩ => ⟨_, by omega, rfl, hlt, b2, u2, ow2, r2, o2, ef2, p2⟩, fun v H2 y => ?_⟩
    obtain ⟨same, rp⟩ := hy v H2 y
    have relg := rel'.grow (Keep.of_same same) (fun a z => by
      have := rel'.odom a (rel'.zsub a z)
      cases h : H' a with
      | none => exact absurd h this
      | some o => rw [same a o h]; simp)
    refine ⟨R, O, H0, ow', Γb b, xs[i], relg, rp _ (fun a o na ea z => ?_) rel'.ad, fun σ3 rel3 _ => ⟨b, xs[i], O, H0, ow', u, b2, u2, rel3, ok'.same same, ef1, fun ow4 σ4 H4 rel4 ok4 sp4 => ⟨ow4, rel4, ok4, ?_⟩⟩⟩
    · rcases z with z | ⟨j, d, e3, e4⟩
      · exact na (.inl z)
      · rcases sp.sub j d e3 with z | z
        · exact na (by rw [← e4]; exact z)
        · rw [e4, ea] at z; cases z
    · have avs : ∀ a, avo O (set (Γb b) xs[i]) ow' a → avo O (Γb b) ow' a := fun a z => by
        rcases z with z | ⟨j, d, e3, e4⟩
        · exact .inl z
        · exact .inr ⟨j, d, hset _ _ _ _ e3, e4⟩
      have sp5 : Step O (Γb b) ow' H' (Γb b2) ow4 H4 := Step.pre (Keep.of_same same) ⟨sp4.keep.mono avs, fun j d e3 => by
        rcases sp4.sub j d e3 with z | z
        · exact .inl (avs _ z)
        · exact .inr z⟩
      exact sp.trans sp5
  · have hi' : i = xs.length := by omega
    subst hi'
    refine .inl ⟨stop (by simp), ?_⟩
    rw [List.drop_length] at ef
    obtain ⟨rfl, rfl⟩ := pure_some (show pureM b u = some (bf, stf) from ef)
    exact q ow' σ' H' rel' ok' (sp.pre (rel.keepA k1))
/-- a loop that may return -/
theorem q_forO {set : List Slot → ι → List Slot} {is : List Nat} {tg iter : Expr} {body : List Stmt} {mi : M (List ι)} (Γb : β → List Slot) (b0 : β) (f : β → ι → M (Out ρ β)) (hp : PassesOwn (model X.prog X.w) X.A X.env X.xe) (hc : X.calm = true)
    (hi : IJ X R Γ iter tg ei mi) (hg : GJ X tg set is ei) (hset : ∀ Γ x (i : Nat) d, (set Γ x)[i]? = some (.ow d) → Γ[i]? = some (.ow d)) (hlow : Low Γ (Γb b0))
    (hb : ∀ b x, SJ X R (set (Γb b) x) body (outO er Γb) (f b x)) (hs : ∀ x, foldedSetIterable iter X.env x = pure x := by intro _; rfl) :
    QJ X R Γ (.For tg iter body [] pos) (outO er Γb) (bindM mi fun xs => forO f xs b0) := by
  refine PS.weak (ps_for hp hc hi hg (PSs.ex fun b => PSs.ex fun x => hb b x) hs) fun D σ H ⟨O, H0, ow, st, bf, stf, rel, ok, e, q⟩ => ?_
  obtain ⟨xs, s1, e1, e2⟩ := bind_some e
  refine ⟨O, H0, ow, st, xs, s1, rel, ok, e1, fun J H1 k1 o1 hlen it => ?_⟩
  have rel1 := rel.grow k1 (okZ o1)
  refine ⟨fun i m σ' H' => m = xs.length - i ∧ i ≤ xs.length ∧ ∃ b u ow', Rel R O H0 ow' (Γb b) σ' H' ∧ okR R u H' ∧ forO f (xs.drop i) b u = some (bf, stf) ∧ Step O Γ ow H1 (Γb b) ow' H', ⟨_, rfl, Nat.zero_le _, b0, s1, ow, rel1.low hlow, o1, e2, Step.refl.lowR hlow⟩, ?_⟩
  rintro i m σ' H' ⟨rfl, hile, b, u, ow', rel', ok', ef, sp⟩
  obtain ⟨stop, go⟩ := it H' i sp.keep
  by_cases hlt : i < xs.length
  · have hx : xs[i]? = some xs[i] := List.getElem?_eq_getElem hlt
    obtain ⟨hgo, hy⟩ := go (ei xs[i]) (by rw [List.getElem?_map, hx]; rfl)
    rw [List.drop_eq_getElem_cons hlt] at ef
    rw [forO] at ef
    obtain ⟨o2, u2, ef1, ef2⟩ := bind_some ef
    refine .inr ⟨hgo, fun σ2 H2 => ∃ b2 ow2, o2 = .nx b2 ∧ Rel R O H0 ow2 (Γb b2) σ2 H2 ∧ okR R u2 H2 ∧ Step O Γ ow H1 (Γb b2) ow2 H2, fun σ2 H2 ⟨b2, ow2, eo, r2, o2, p2⟩ => ⟨_, by omega, rfl, hlt, b2, u2, ow2, r2, o2, by subst eo; exact ef2, p2⟩, fun v H2 y => ?_⟩
    obtain ⟨same, rp⟩ := hy v H2 y
    have relg := rel'.grow (Keep.of_same same) (fun a z => by
      have := rel'.odom a (rel'.zsub a z)
      cases h : H' a with
      | none => exact absurd h this
      | some o => rw [same a o h]; simp)
    refine ⟨R, O, H0, ow', Γb b, xs[i], relg, rp _ (fun a o na ea z => ?_) rel'.ad, fun σ3 rel3 _ => ⟨b, xs[i], O, H0, ow', u, o2, u2, rel3, ok'.same same, ef1, ?_⟩⟩
    · rcases z with z | ⟨j, d, e3, e4⟩
      · exact na (.inl z)
      · rcases sp.sub j d e3 with z | z
        · exact na (by rw [← e4]; exact z)
        · rw [e4, ea] at z; cases z
    · have avs : ∀ a, avo O (set (Γb b) xs[i]) ow' a → avo O (Γb b) ow' a := fun a z => by
        rcases z with z | ⟨j, d, e3, e4⟩
        · exact .inl z
        · exact .inr ⟨j, d, hset _ _ _ _ e3, e4⟩
      cases o2 with
      | nx b2 =>
        refine fun ow4 σ4 H4 rel4 ok4 sp4 => ⟨b2, ow4, rfl, rel4, ok4, ?_⟩
        have sp5 : Step O (Γb b) ow' H' (Γb b2) ow4 H4 := Step.pre (Keep.of_same same) ⟨sp4.keep.mono avs, fun j d e3 => by
          rcases sp4.sub j d e3 with z | z
          · exact .inl (avs _ z)
          · exact .inr z⟩
        exact sp.trans sp5
      | rt r =>
        obtain ⟨rfl, rfl⟩ := pure_some (show pureM (Out.rt r) u2 = some (bf, stf) from ef2)
        exact q
  · have hi' : i = xs.length := by omega
    subst hi'
    refine .inl ⟨stop (by simp), ?_⟩
    rw [List.drop_length] at ef
    obtain ⟨rfl, rfl⟩ := pure_some (show pureM (Out.nx b) u = some (bf, stf) from ef)
    exact q ow' σ' H' rel' ok' (sp.pre (rel.keepA k1))
/-! ### while -/
theorem q_while {body : List Stmt} (Γb : β → List Slot) (b0 : β) (n : Nat) (mc : β → M Bool) (f : β → M β) (hp : PassesOwn (model X.prog X.w) X.A X.env X.xe) (hlow : Low Γ (Γb b0))
    (hc : ∀ b, TJ X R (Γb b) c (mc b)) (hb : ∀ b, SJ X R (Γb b) body (fun b' => .nx (Γb b')) (f b)) : QJ X R Γ (.While c body [] pos) (fun b => .nx (Γb b)) (whileM mc f n b0) := by
  refine PS.weak (ps_while hp (PT.ex hc) (PSs.ex hb)) fun D σ H ⟨O, H0, ow, st, bf, stf, rel, ok, e, q⟩ => ?_
  refine ⟨fun m σ' H' => ∃ b u ow', Rel R O H0 ow' (Γb b) σ' H' ∧ okR R u H' ∧ whileM mc f m b u = some (bf, stf) ∧ Step O Γ ow H (Γb b) ow' H', ⟨n, b0, st, ow, rel.low hlow, ok, e, Step.refl.lowR hlow⟩, ?_⟩
  rintro m σ' H' ⟨b, u, ow', rel', ok', ef, sp⟩
  cases m with
  | zero => cases ef
  | succ m =>
    obtain ⟨k, u2, ef1, ef2⟩ := bind_some (show bindM (mc b) (fun k => if k then bindM (f b) fun b' => whileM mc f m b' else pureM b) u = some (bf, stf) from ef)
    refine ⟨b, O, H0, ow', u, k, u2, rel', ok', ef1, fun H2 k2 o2 => ?_⟩
    have rel2 := rel'.grow k2 (okZ o2)
    cases k with
    | true =>
      obtain ⟨b3, u3, ef3, ef4⟩ := bind_some (show bindM (f b) (fun b' => whileM mc f m b') u2 = some (bf, stf) from ef2)
      refine L2.iteT ⟨fun σ3 H3 => ∃ ow3, Rel R O H0 ow3 (Γb b3) σ3 H3 ∧ okR R u3 H3 ∧ Step O Γ ow H (Γb b3) ow3 H3, fun σ3 H3 ⟨ow3, r3, o3, p3⟩ => ⟨m, Nat.lt_succ_self m, b3, u3, ow3, r3, o3, ef4, p3⟩, b, O, H0, ow', u2, b3, u3, rel2, o2, ef3, fun ow4 σ4 H4 rel4 ok4 sp4 => ⟨ow4, rel4, ok4, sp.trans (sp4.pre (rel'.keepA k2))⟩⟩
    | false =>
      obtain ⟨rfl, rfl⟩ := pure_some (show pureM b u2 = some (bf, stf) from ef2)
      refine L2.iteF ?_
      exact q ow' σ' H2 rel2 o2 (sp.trans (Step.refl.pre (rel'.keepA k2)))
end
end Pz

namespace Pz
open PySem PySem.Spec PyProof.Rows L2

section
variable {α β γ κ ρ ι : Type} {ea : α → PyData} {ec : γ → PyData} {er : ρ → PyData} {ei : ι → PyData} {X : Cx} {R : Res} {Γ Γ' : List Slot} {e c : Expr} {st : Stmt} {rest A B : List Stmt} {pos : Pos} {out : κ → OutD}
/-! ### comprehensions -/
def compM (c : ι → M Bool) (f : ι → M γ) : List ι → M (List γ)
  | [] => pureM []
  | x :: xs => bindM (c x) fun b => if b then bindM (f x) fun y => bindM (compM c f xs) fun ys => pureM (y :: ys) else compM c f xs
def wipeG (Γ : List Slot) : List Nat → List Slot
  | [] => Γ
  | v :: vs => (wipeG Γ vs).set v .un
theorem wipeG_length : ∀ vs : List Nat, (wipeG Γ vs).length = Γ.length
  | [] => rfl
  | v :: vs => by unfold wipeG; rw [List.length_set, wipeG_length vs]
theorem wipeG_at {i : Nat} : ∀ {vs : List Nat}, i ∉ vs → (wipeG Γ vs)[i]? = Γ[i]?
  | [], _ => rfl
  | v :: vs, h => by
    simp only [List.mem_cons, not_or] at h
    unfold wipeG
    rw [List.getElem?_set_ne (fun z => h.1 z.symm)]
    exact wipeG_at h.2
theorem wipeG_in {i : Nat} {s : Slot} : ∀ {vs : List Nat}, i ∈ vs → (wipeG Γ vs)[i]? = some s → s = .un
  | [], h, _ => by simp at h
  | v :: vs, h, e => by
    unfold wipeG at e
    by_cases hv : v = i
    · subst hv
      rw [List.getElem?_set_self'] at e
      cases q : (wipeG Γ vs)[v]? with
      | none => rw [q] at e; cases e
      | some u => rw [q] at e; cases e; rfl
    · rw [List.getElem?_set_ne hv] at e
      rcases List.mem_cons.mp h with z | z
      · exact absurd z.symm hv
      · exact wipeG_in z e
theorem wipe_eq {σ : L2.St} {i : Nat} : ∀ {vs : List Nat}, i ∉ vs → (wipe σ vs)[i]? = σ[i]?
  | [], _ => rfl
  | v :: vs, h => by
    simp only [List.mem_cons, not_or] at h
    unfold wipe
    rw [List.getElem?_set_ne (fun z => h.1 z.symm)]
    exact wipe_eq h.2
theorem wipe_none {σ : L2.St} : ∀ {vs : List Nat} {i : Nat}, i ∈ vs → i < σ.length → (wipe σ vs)[i]? = some none
  | [], _, h, _ => by simp at h
  | v :: vs, i, h, hl => by
    unfold wipe
    by_cases hv : v = i
    · subst hv
      exact List.getElem?_set_self (by rw [wipe_length]; exact hl)
    · rw [List.getElem?_set_ne hv]
      rcases List.mem_cons.mp h with z | z
      · exact absurd z.symm hv
      · exact wipe_none z hl
theorem wipe_idem (σ : L2.St) (vs : List Nat) : wipe (wipe σ vs) vs = wipe σ vs := by
  apply List.ext_getElem?
  intro i
  by_cases h : i ∈ vs
  · by_cases hl : i < σ.length
    · rw [wipe_none h (by rw [wipe_length]; exact hl), wipe_none h hl]
    · rw [List.getElem?_eq_none (by rw [wipe_length, wipe_length]; omega), List.getElem?_eq_none (by rw [wipe_length]; omega)]
  · rw [wipe_eq h]
theorem Rel.wipe {O : Av} {H0 H : Hp} {ow : Nat → Addr} {σ : L2.St} (r : Rel R O H0 ow Γ σ H) (vs : List Nat) (hv : ∀ i ∈ vs, ∀ d, Γ[i]? ≠ some (.ow d)) : Rel R O H0 ow (wipeG Γ vs) (L2.wipe σ vs) H ∧ Pz.avo O (wipeG Γ vs) ow = Pz.avo O Γ ow := by
  have back : ∀ (i : Nat) (s : Slot), (wipeG Γ vs)[i]? = some s → s ≠ .un → i ∉ vs ∧ Γ[i]? = some s := fun i s e n => by
    by_cases h : i ∈ vs
    · exact absurd (wipeG_in h e) n
    · rw [wipeG_at h] at e; exact ⟨h, e⟩
  have av : Pz.avo O (wipeG Γ vs) ow = Pz.avo O Γ ow := funext fun a => propext ⟨fun z => by
      rcases z with z | ⟨i, d, e, q⟩
      · exact .inl z
      · exact .inr ⟨i, d, (back i _ e (by simp)).2, q⟩, fun z => by
      rcases z with z | ⟨i, d, e, q⟩
      · exact .inl z
      · exact .inr ⟨i, d, by rw [wipeG_at (fun h => hv i h d e)]; exact e, q⟩⟩
  refine ⟨⟨by rw [wipeG_length, wipe_length]; exact r.len, fun i d e => ?_, fun i d e => ?_, fun i e => ?_, fun i j d d' e1 e2 => r.hinj i j d d' (back i _ e1 (by simp)).2 (back j _ e2 (by simp)).2, r.same, r.zsub, r.odom⟩, av⟩
  · obtain ⟨h1, h2⟩ := back i _ e (by simp)
    rw [wipe_eq h1, av]; exact r.hfz i d h2
  · obtain ⟨h1, h2⟩ := back i _ e (by simp)
    rw [wipe_eq h1, av]; exact r.how i d h2
  · obtain ⟨h1, h2⟩ := back i _ e (by simp)
    rw [wipe_eq h1]; exact r.hsrc i h2
/-- one place more that is not looked at -/
theorem Rel.addO {O : Av} {H0 H : Hp} {ow : Nat → Addr} {σ : L2.St} (r : Rel R O H0 ow Γ σ H) {D : Addr} (n : H D = none) (o : HO) : Rel R (avp O D) H0 ow Γ σ (upd H D o) ∧ H0 D = none := by
  have nA : ¬ Pz.avo O Γ ow D := r.ad.fresh n
  have n0 : H0 D = none := by
    cases h : H0 D with
    | none => rfl
    | some u =>
      by_cases z1 : Zr R D
      · exact absurd (r.zavo z1) nA
      · rw [r.same D u z1 h] at n; cases n
  have k : Keep (Pz.avo O Γ ow) H (upd H D o) := fun a u _ e => by rw [upd_ne (ne_of_none e n)]; exact e
  have less : ∀ a, Pz.avo (avp O D) Γ ow a → avp (Pz.avo O Γ ow) D a := fun a z => by
    rcases z with (z | z) | ⟨i, d, e, q⟩
    · exact .inl (.inl z)
    · exact .inr z
    · exact .inl (.inr ⟨i, d, e, q⟩)
  refine ⟨⟨r.len, fun i d e => ?_, fun i d e => ?_, r.hsrc, r.hinj, fun a u z e => ?_, fun a z => .inl (r.zsub a z), fun a z => ?_⟩, n0⟩
  · obtain ⟨v, a, b⟩ := r.hfz i d e
    exact ⟨v, a, (b.at n k).less less⟩
  · obtain ⟨a, b, c, f⟩ := r.how i d e
    have ne : ow i ≠ D := fun z => nA (.inr ⟨i, d, e, z⟩)
    refine ⟨a, ?_, fun z => z.elim c ne, f⟩
    cases d with
    | list ds => obtain ⟨vs, q1, q2⟩ := b; exact ⟨vs, by rw [upd_ne ne]; exact q1, (q2.at n k).less less⟩
    | _ => exact b.elim
  · rw [upd_ne (fun q => by rw [q, n0] at e; cases e)]; exact r.same a u z e
  · by_cases q : a = D
    · rw [q, upd_same]; simp
    · rcases z with z | z
      · rw [upd_ne q]; exact r.odom a z
      · exact absurd z q
theorem Rel.updO {O : Av} {H0 H : Hp} {ow : Nat → Addr} {σ : L2.St} (r : Rel R O H0 ow Γ σ H) {D : Addr} (hD : O D) (n0 : H0 D = none) (o : HO) : Rel R O H0 ow Γ σ (upd H D o) := by
  have k : Keep (Pz.avo O Γ ow) H (upd H D o) := fun a u na e => by rw [upd_ne (fun z => na (.inl (by rw [z]; exact hD)))]; exact e
  refine ⟨r.len, fun i d e => ?_, fun i d e => ?_, r.hsrc, r.hinj, fun a u z e => ?_, r.zsub, fun a z => ?_⟩
  · obtain ⟨v, a, b⟩ := r.hfz i d e
    exact ⟨v, a, b.keep k⟩
  · obtain ⟨a, b, c, f⟩ := r.how i d e
    exact ⟨a, b.keep k fun o' q => by rw [upd_ne (fun z => c (by rw [z]; exact hD))]; exact q, c, f⟩
  · rw [upd_ne (fun q => by rw [q, n0] at e; cases e)]; exact r.same a u z e
  · by_cases q : a = D
    · rw [q, upd_same]; simp
    · rw [upd_ne q]; exact r.odom a z
theorem PTs.weak {ifs : List Expr} {t t' : TT} (h : PTs X ifs t) (w : ∀ σ H Q, t' σ H Q → t σ H Q) : PTs X ifs t' := ⟨fun pins s σ H Q I q => h.run pins s σ H Q I (w σ H Q q)⟩
theorem PTs.ex {ι : Type} {ifs : List Expr} {t : ι → TT} (h : ∀ x, PTs X ifs (t x)) : PTs X ifs (fun σ H Q => ∃ x, t x σ H Q) := ⟨fun pins s σ H Q I ⟨x, q⟩ => (h x).run pins s σ H Q I q⟩
abbrev CJ (X : Cx) (R : Res) (Γ : List Slot) (ifs : List Expr) (m : M Bool) : Prop := PTs X ifs (tT R Γ m)
theorem c_nil : CJ X R Γ [] (pureM true) := by
  refine PTs.weak pts_nil fun σ H Q ⟨O, H0, ow, st, z, st', rel, ok, e, q⟩ => ?_
  obtain ⟨rfl, rfl⟩ := pure_some e
  exact q H (Keep.refl H) ok
theorem c_one {m : M Bool} (h : TJ X R Γ c m) : CJ X R Γ [c] m := pts_one h
theorem lc_read {set : List Slot → ι → List Slot} {is vs : List Nat} {mi : M (List ι)} {mc : ι → M Bool} {f : ι → M γ} (hset : ∀ Γ x (i : Nat) d, (set Γ x)[i]? = some (.ow d) → Γ[i]? = some (.ow d))
    (hsm : ∀ Γ x (i : Nat), i ∉ is → (set Γ x)[i]? = Γ[i]?) (his : ∀ i ∈ is, i ∈ vs) (hvs : ∀ i ∈ vs, ∀ d, Γ[i]? ≠ some (.ow d)) {σ : L2.St} {H : Hp} {Q : VK} (h : tF R Γ ec (bindM mi fun xs => compM mc f xs) σ H Q) :
    tLc (tI R Γ ei mi) (tG set is ei) (fun σ H Q => ∃ x, tT R (set (wipeG Γ vs) x) (mc x) σ H Q) (fun σ H Q => ∃ x, tE R (set (wipeG Γ vs) x) ec (f x) σ H Q) vs σ H Q := by
  obtain ⟨O, H0, ow, st, r, st', rel, ok, e, q⟩ := h
  obtain ⟨xs, s1, e1, e2⟩ := bind_some e
  refine ⟨O, H0, ow, st, xs, s1, rel, ok, e1, fun J H1 k1 o1 hlen it => fun D nD => ?_⟩
  have rel1 := rel.grow k1 (okZ o1)
  obtain ⟨relw, av⟩ := rel1.wipe vs hvs
  obtain ⟨relD, n0⟩ := relw.addO nD (.lst [])
  have nZ : ¬ Zr R D := fun z => okZ o1 D z nD
  have nA : ¬ avo O Γ ow D := rel1.ad.fresh nD
  have avD : ∀ a, avo (avp O D) (wipeG Γ vs) ow a → avp (avo O Γ ow) D a := fun a z => by
    rcases z with (z | z) | z
    · exact .inl (.inl z)
    · exact .inr z
    · exact .inl (by rw [← av]; exact .inr z)
  have avL : ∀ a, avo O Γ ow a → avo (avp O D) (wipeG Γ vs) ow a := fun a z => by
    rw [← av] at z
    rcases z with z | z
    · exact .inl (.inl z)
    · exact .inr z
  refine ⟨fun i m H' => m = xs.length - i ∧ i ≤ xs.length ∧ ∃ u acc ys zs, Rel R (avp O D) H0 ow (wipeG Γ vs) (L2.wipe σ vs) H' ∧ okR R u H' ∧ H' D = some (.lst acc) ∧ RpAll (avo (avp O D) (wipeG Γ vs) ow) H' acc (ys.map ec) ∧
    compM mc f (xs.drop i) u = some (zs, st') ∧ r = ys ++ zs ∧ ys.length ≤ i ∧ Keep (Zr R) H1 H', ⟨_, rfl, Nat.zero_le _, s1, [], [], r, relD, o1.keep (fun a o z e => by rw [upd_ne (fun q => nZ (by rw [← q]; exact z))]; exact e), upd_same, .nil, e2, rfl, Nat.le_refl _, fun a o _ e => by rw [upd_ne (ne_of_none e nD)]; exact e⟩, ?_⟩
  rintro i m H' ⟨rfl, hile, u, acc, ys, zs, rel', ok', hD, racc, ef, rfl, hys, k'⟩
  have kA : Keep (avo O Γ ow) H1 H' := rel1.keepA k'
  obtain ⟨stop, go⟩ := it H' i kA
  by_cases hlt : i < xs.length
  · have hx : xs[i]? = some xs[i] := List.getElem?_eq_getElem hlt
    obtain ⟨hgo, hy⟩ := go (ei xs[i]) (by rw [List.getElem?_map, hx]; rfl)
    rw [List.drop_eq_getElem_cons hlt, compM] at ef
    obtain ⟨b, u2, ef1, ef2⟩ := bind_some ef
    refine .inr ⟨hgo, fun H2 => ∃ u acc ys' zs', Rel R (avp O D) H0 ow (wipeG Γ vs) (L2.wipe σ vs) H2 ∧ okR R u H2 ∧ H2 D = some (.lst acc) ∧ RpAll (avo (avp O D) (wipeG Γ vs) ow) H2 acc (ys'.map ec) ∧
      compM mc f (xs.drop (i + 1)) u = some (zs', st') ∧ ys ++ zs = ys' ++ zs' ∧ ys'.length ≤ i + 1 ∧ Keep (Zr R) H1 H2, fun H2 ⟨u', acc', ys', zs', a1, a2, a3, a4, a5, a6, a7, a8⟩ => ⟨_, by omega, rfl, hlt, u', acc', ys', zs', a1, a2, a3, a4, a5, a6, a7, a8⟩, fun v H2 y => ?_⟩
    obtain ⟨same, rp⟩ := hy v H2 y
    have relg := rel'.grow (Keep.of_same same) (fun a z => by
      have := rel'.odom a (rel'.zsub a z)
      cases h : H' a with
      | none => exact absurd h this
      | some o => rw [same a o h]; simp)
    refine ⟨R, avp O D, H0, ow, wipeG Γ vs, xs[i], relg, rp _ (fun a o na ea z => ?_) rel'.ad, fun σ3 rel3 w3 => ⟨(w3 vs his).trans (wipe_idem σ vs), xs[i], avp O D, H0, ow, u, b, u2, rel3, ok'.same same, ef1, fun H3 k3 o3 => ?_⟩⟩
    · rcases avD a z with z | z
      · exact na z
      · rw [z, nD] at ea; cases ea
    have hD3 : H3 D = some (.lst acc) := k3 _ _ nZ (same _ _ hD)
    have rel3' := rel3.grow k3 (okZ o3)
    have relH3 := relg.grow k3 (okZ o3)
    have kH3 : Keep (Zr R) H1 H3 := (k'.trans (Keep.of_same same)).trans k3
    have racc3 := (racc.keep (Keep.of_same same)).keep (relg.keepA k3)
    cases b with
    | false => exact L2.iteF ⟨u2, acc, ys, zs, relH3, o3, hD3, racc3, ef2, rfl, by omega, kH3⟩
    | true =>
      refine L2.iteT ⟨xs[i], avp O D, H0, ow, u2, ?_⟩
      obtain ⟨y, u3, ef3, ef4⟩ := bind_some (show bindM (f xs[i]) (fun y => bindM (compM mc f (xs.drop (i + 1))) fun ys => pureM (y :: ys)) u2 = some (zs, st') from ef2)
      obtain ⟨zs', u4, ef5, ef6⟩ := bind_some ef4
      obtain ⟨rfl, rfl⟩ := pure_some ef6
      refine ⟨y, u3, rel3', o3, ef3, fun w H4 k4 o4 rp4 => ?_⟩
      have hD4 : H4 D = some (.lst acc) := k4 _ _ nZ hD3
      have hacc : acc.length = ys.length := by have := racc.length; simpa using this
      refine ⟨acc, hD4, by omega, u3, acc ++ [w], ys ++ [y], zs', (relH3.grow k4 (okZ o4)).updO (.inr rfl) n0 _, o4.keep (fun a o z e => by rw [upd_ne (fun q => nZ (by rw [← q]; exact z))]; exact e), upd_same, ?_, ef5, by simp, by simp; omega, fun a o nz e => ?_⟩
      · have kD : Keep (avo (avp O D) (wipeG Γ vs) ow) H4 (upd H4 D (.lst (acc ++ [w]))) := fun a o na e => by rw [upd_ne (fun z => na (.inl (.inr z)))]; exact e
        rw [List.map_append]
        refine (((racc3.keep (relH3.keepA k4)).keep kD)).append (.cons ((rp4.less fun a z => ?_).keep kD) .nil)
        rcases z with z | ⟨j, d, e3, e4⟩
        · exact .inl z
        · refine .inr ⟨j, d, ?_, e4⟩
          rw [hsm _ _ j fun hj => absurd (wipeG_in (his j hj) e3) (by simp)]
          exact e3
      · rw [upd_ne (ne_of_none e nD)]; exact k4 _ _ nz (kH3 _ _ nz e)
  · have hi' : i = xs.length := by omega
    subst hi'
    refine .inl ⟨stop (by simp), ?_⟩
    rw [List.drop_length] at ef
    obtain ⟨rfl, rfl⟩ := pure_some (show pureM [] u = some (zs, st') from ef)
    rw [List.append_nil] at q
    refine q D acc H' ?_ (k1.trans k') ok' hD (racc.less fun a z => ?_)
    · exact noneK k1 o1 nD
    · rcases z with z | z
      · exact avL a z
      · exact .inl (.inr z)
theorem f_lc {set : List Slot → ι → List Slot} {is : List Nat} {mi : M (List ι)} {elt tg iter : Expr} {ifs : List Expr} {scope : Scope} (own : List (Str × Nat)) (mc : ι → M Bool) (f : ι → M γ) (hc : X.calm = true) (hN : X.N.Nodup)
    (hi : IJ X R Γ iter tg ei mi) (ok : BlkOk X.N X.env.scope scope own)
    (hg : ∀ (s : Shared) (H : Hp) (C : Addr) (cl : List (Str × Addr)) (fp : List Addr), GJ (X.blk s H scope (compEnvC scope cl C X.env) fp) tg set is ei)
    (ht : ∀ (s : Shared) (H : Hp) (C : Addr) (cl : List (Str × Addr)) (fp : List Addr) (x : ι), CJ (X.blk s H scope (compEnvC scope cl C X.env) fp) R (set (wipeG Γ (own.map (·.2))) x) ifs (mc x))
    (he : ∀ (s : Shared) (H : Hp) (C : Addr) (cl : List (Str × Addr)) (fp : List Addr) (x : ι), EJ (X.blk s H scope (compEnvC scope cl C X.env) fp) R (set (wipeG Γ (own.map (·.2))) x) elt ec (f x))
    (hset : ∀ Γ x (i : Nat) d, (set Γ x)[i]? = some (.ow d) → Γ[i]? = some (.ow d)) (hsm : ∀ Γ x (i : Nat), i ∉ is → (set Γ x)[i]? = Γ[i]?) (his : ∀ i ∈ is, i ∈ own.map (·.2)) (hvs : ∀ i ∈ own.map (·.2), ∀ d, Γ[i]? ≠ some (.ow d))
    (hs : ∀ x, foldedSetIterable iter X.env x = pure x := by intro _; rfl) : EF X R Γ (.ListComp elt [⟨tg, iter, ifs, 0⟩] scope pos) ec (bindM mi fun xs => compM mc f xs) :=
  PE.weak (pe_lc hc hN hi ok hg (fun s H C cl fp => PTs.ex fun x => ht s H C cl fp x) (fun s H C cl fp => PE.ex fun x => he s H C cl fp x) hs) fun σ H Q h => lc_read hset hsm his hvs h
/-- name = [..] on one line, the name a local -/
theorem q_setLc (i : Nat) {y : Str} {py spos : Pos} {set : List Slot → ι → List Slot} {is : List Nat} {mi : M (List ι)} {elt tg iter : Expr} {ifs : List Expr} {scope : Scope} (own : List (Str × Nat)) (mc : ι → M Bool) (f : ι → M γ) (hc : X.calm = true) (hN : X.N.Nodup)
    (hsw : swapsWith (.ListComp elt [⟨tg, iter, ifs, 0⟩] scope pos) (some (.Name y py)) spos.line X.env = pure true)
    (hi : IJ X R Γ iter tg ei mi) (ok : BlkOk X.N X.env.scope scope own)
    (hg : ∀ (s : Shared) (H : Hp) (C : Addr) (cl : List (Str × Addr)) (fp : List Addr), GJ (X.blk s H scope (compEnvC scope cl C X.env) fp) tg set is ei)
    (ht : ∀ (s : Shared) (H : Hp) (C : Addr) (cl : List (Str × Addr)) (fp : List Addr) (x : ι), CJ (X.blk s H scope (compEnvC scope cl C X.env) fp) R (set (wipeG Γ (own.map (·.2))) x) ifs (mc x))
    (he : ∀ (s : Shared) (H : Hp) (C : Addr) (cl : List (Str × Addr)) (fp : List Addr) (x : ι), EJ (X.blk s H scope (compEnvC scope cl C X.env) fp) R (set (wipeG Γ (own.map (·.2))) x) elt ec (f x))
    (hset : ∀ Γ x (i : Nat) d, (set Γ x)[i]? = some (.ow d) → Γ[i]? = some (.ow d)) (hsm : ∀ Γ x (i : Nat), i ∉ is → (set Γ x)[i]? = Γ[i]?) (his : ∀ i ∈ is, i ∈ own.map (·.2)) (hvs : ∀ i ∈ own.map (·.2), ∀ d, Γ[i]? ≠ some (.ow d))
    (hy : X.N[i]? = some y := by rfl) (hyl : X.env.scope.names.lookup y = some .local := by rfl) (hs : ∀ x, foldedSetIterable iter X.env x = pure x := by intro _; rfl) :
    QJ X R Γ (.Assign [.Name y py] (.ListComp elt [⟨tg, iter, ifs, 0⟩] scope pos) spos) (fun r => .nx (Γ.set i (.ow (eL ec r)))) (bindM mi fun xs => compM mc f xs) := by
  refine PS.weak (ps_setLc hc hN hy hyl hsw hi ok hg (fun s H C cl fp => PTs.ex fun x => ht s H C cl fp x) (fun s H C cl fp => PE.ex fun x => he s H C cl fp x) hs) fun D σ H h => ?_
  refine lc_read hset hsm his hvs ?_
  obtain ⟨O, H0, ow, st, z, st', rel, ok, e, q⟩ := h
  refine ⟨O, H0, ow, st, z, st', rel, ok, e, fun p vs H' n k o ep rp => ?_⟩
  obtain ⟨r1, s1⟩ := rel.setOw i n k (okZ o) ep rp
  exact q _ _ H' r1 o s1
/-- .. and it is only read from here on -/
theorem q_setLcE (i : Nat) {y : Str} {py spos : Pos} {set : List Slot → ι → List Slot} {is : List Nat} {mi : M (List ι)} {elt tg iter : Expr} {ifs : List Expr} {scope : Scope} (own : List (Str × Nat)) (mc : ι → M Bool) (f : ι → M γ) (hc : X.calm = true) (hN : X.N.Nodup)
    (hsw : swapsWith (.ListComp elt [⟨tg, iter, ifs, 0⟩] scope pos) (some (.Name y py)) spos.line X.env = pure true)
    (hi : IJ X R Γ iter tg ei mi) (ok : BlkOk X.N X.env.scope scope own)
    (hg : ∀ (s : Shared) (H : Hp) (C : Addr) (cl : List (Str × Addr)) (fp : List Addr), GJ (X.blk s H scope (compEnvC scope cl C X.env) fp) tg set is ei)
    (ht : ∀ (s : Shared) (H : Hp) (C : Addr) (cl : List (Str × Addr)) (fp : List Addr) (x : ι), CJ (X.blk s H scope (compEnvC scope cl C X.env) fp) R (set (wipeG Γ (own.map (·.2))) x) ifs (mc x))
    (he : ∀ (s : Shared) (H : Hp) (C : Addr) (cl : List (Str × Addr)) (fp : List Addr) (x : ι), EJ (X.blk s H scope (compEnvC scope cl C X.env) fp) R (set (wipeG Γ (own.map (·.2))) x) elt ec (f x))
    (hset : ∀ Γ x (i : Nat) d, (set Γ x)[i]? = some (.ow d) → Γ[i]? = some (.ow d)) (hsm : ∀ Γ x (i : Nat), i ∉ is → (set Γ x)[i]? = Γ[i]?) (his : ∀ i ∈ is, i ∈ own.map (·.2)) (hvs : ∀ i ∈ own.map (·.2), ∀ d, Γ[i]? ≠ some (.ow d))
    (hy : X.N[i]? = some y := by rfl) (hyl : X.env.scope.names.lookup y = some .local := by rfl) (hs : ∀ x, foldedSetIterable iter X.env x = pure x := by intro _; rfl) :
    QJ X R Γ (.Assign [.Name y py] (.ListComp elt [⟨tg, iter, ifs, 0⟩] scope pos) spos) (fun r => .nx (Γ.set i (.fz (eL ec r)))) (bindM mi fun xs => compM mc f xs) := by
  refine PS.weak (ps_setLc hc hN hy hyl hsw hi ok hg (fun s H C cl fp => PTs.ex fun x => ht s H C cl fp x) (fun s H C cl fp => PE.ex fun x => he s H C cl fp x) hs) fun D σ H h => ?_
  refine lc_read hset hsm his hvs ?_
  obtain ⟨O, H0, ow, st, z, st', rel, ok, e, q⟩ := h
  refine ⟨O, H0, ow, st, z, st', rel, ok, e, fun p vs H' n k o ep rp => ?_⟩
  exact q ow _ H' ((rel.grow k (okZ o)).setFz i (.lst (rel.ad.fresh n) ep (rp.less fun _ z => .inl z))) o (Step.setFz i _ (rel.keepA k))

/-! ### defs -/
/-- the promise: on the arguments en a it hands back what f a says -/
def SpM (en : α → List Slot) (er : ρ → PyData) (f : α → M ρ) : Sp := fun vs H Q _ => ∃ R O a st r st', (∀ x, Zr R x → O x) ∧ (∀ x, O x → H x ≠ none) ∧ okR R st H ∧ RpSs R O H vs (en a) ∧ f a st = some (r, st') ∧
  ∀ v H', Keep (Zr R) H H' → okR R st' H' → Rp O H' v (er r) → Q v H'
theorem RpSs.length {A : Av} {H : Hp} : ∀ {vs : List V} {l : List Slot}, RpSs R A H vs l → vs.length = l.length
  | _, [], h => by cases h; rfl
  | _, _ :: _, h => by cases h with | cons _ h2 => simp [RpSs.length h2]
theorem RpSs.get {A : Av} {H : Hp} : ∀ {vs : List V} {l : List Slot} {i : Nat} {s : Slot}, RpSs R A H vs l → l[i]? = some s → ∃ v, vs[i]? = some v ∧ RpS R A H v s
  | _, [], _, _, _, e => by simp at e
  | _, _ :: _, 0, _, h, e => by cases h with | cons h1 _ => simp at e; subst e; exact ⟨_, rfl, h1⟩
  | _, _ :: _, i + 1, _, h, e => by cases h with | cons _ h2 => simpa using RpSs.get h2 (by simpa using e)
/-- the slots at a def's entry -/
def entry (l : List Slot) (k : Nat) : List Slot := l ++ List.replicate k .un
theorem Rel.entry {O : Av} {H : Hp} {vs : List V} {l : List Slot} {N : List Str} (hl : RpSs R O H vs l) (hk : l.length ≤ N.length) (hz : ∀ x, Zr R x → O x) (hd : ∀ x, O x → H x ≠ none) : Rel R O H (fun _ => 0) (Pz.entry l (N.length - l.length)) (L2.start N vs) H := by
  have len := hl.length
  have noow : ∀ (i : Nat) (d : PyData), (Pz.entry l (N.length - l.length))[i]? ≠ some (.ow d) := fun i d e => by
    unfold Pz.entry at e
    by_cases h : i < l.length
    · rw [List.getElem?_append_left h] at e
      obtain ⟨v, _, r⟩ := hl.get e
      exact r
    · rw [List.getElem?_append_right (by omega)] at e
      have := List.mem_of_getElem? e
      rw [List.mem_replicate] at this
      cases this.2
  have at_ : ∀ {i : Nat} {s : Slot}, (Pz.entry l (N.length - l.length))[i]? = some s → s ≠ .un → ∃ v, (L2.start N vs)[i]? = some (some v) ∧ RpS R O H v s := fun {i s} e n => by
    unfold Pz.entry at e
    by_cases h : i < l.length
    · rw [List.getElem?_append_left h] at e
      obtain ⟨v, a, r⟩ := hl.get e
      refine ⟨v, ?_, r⟩
      unfold L2.start
      rw [List.getElem?_append_left (by rw [List.length_map]; omega), List.getElem?_map, a]
      rfl
    · rw [List.getElem?_append_right (by omega)] at e
      have := List.mem_of_getElem? e
      rw [List.mem_replicate] at this
      exact absurd this.2 n
  refine ⟨?_, fun i d e => ?_, fun i d e => absurd e (noow i d), fun i e => ?_, fun i j d d' e => absurd e (noow i d), Keep.refl H, hz, hd⟩
  · unfold Pz.entry L2.start
    simp only [List.length_append, List.length_replicate, List.length_map]
    omega
  · obtain ⟨v, a, r⟩ := at_ e (by simp)
    exact ⟨v, a, Rp.less (show Rp O H v d from r) fun x z => by
      rcases z with z | ⟨j, d', e', _⟩
      · exact z
      · exact absurd e' (noow j d')⟩
  · obtain ⟨v, a, b, c, e1, e2⟩ := at_ e (by simp)
    subst e2
    exact ⟨b, c, e1, a⟩
/-- the context of a def's body -/
abbrev BX (P : Program) (w : World) (K : PySem.W.Frag) (mg : Str → Option Value) (base : Heap) (N : List Str) (qual : Str) (st : Stmt) (f : Addr) (cdv : Value) (A : Around) (outer : List Env) (s : Shared) (H : Hp) (E : XK) : Cx :=
  (cxOf CX0 P w K mg base N qual (defScope st) f cdv A outer s H E).nox
theorem fn_ok {P : Program} {w : World} {K : PySem.W.Frag} {mg : Str → Option Value} {base : Heap} {x qual : Str} {st : Stmt} {f : Addr} {fd : FuncData} {N ps : List Str} {k : Nat} (F : Fun K x qual st f fd) (S : FnScope N ps (defScope st))
    (en : α → List Slot) (er : ρ → PyData) (g : α → M ρ) (Γ0 : α → List Slot) (hn : ∀ a, (en a).length = ps.length) (hΓ : ∀ a, Pz.entry (en a) (N.length - ps.length) = Γ0 a)
    (body : ∀ (cdv : Value) (A : Around) (outer : List Env) (s : Shared) (H : Hp) (E : XK) (R : Res) (a : α), Room k (A.deeper (envOfC qual (defScope st) s.heap.objs.size f cdv)) → SJ (BX P w K mg base N qual st f cdv A outer s H E) R (Γ0 a) (defBody st) (fun r => .rt (er r)) (g a)) :
    FnOk P w K mg base CX0 (k + 1) f fd ps (SpM en er g) := by
  have hpl : ps.length ≤ N.length := by have := congrArg List.length S.pre; rw [List.length_take] at this; omega
  refine F.ok S (fun vs H Q E ⟨R, O, a, st, r, st', _, _, _, h, _⟩ => by rw [h.length, hn]) (fun cdv A outer s H vs Q E hr h => ?_)
  obtain ⟨R, O, a, u, r, u', hz, hd, ok, hl, e, q⟩ := h
  refine ⟨_, body cdv A outer s H E R a hr, O, H, fun _ => 0, u, r, u', ?_, ok, e, q⟩
  rw [← hΓ a]
  have := Rel.entry (N := N) hl (by rw [hn]; exact hpl) hz hd
  rw [hn] at this
  exact this
/-- f(..) -/
theorem e_call {k : Nat} {f : Addr} {fd : FuncData} {ps : List Str} {x : Str} {p : Pos} {e0 : Expr} {es : List Expr} {en : α → List Slot} {g : α → M ρ} {ma : M α} (F : FnOk X.prog X.w X.K X.mg X.base CX0 k f fd ps (SpM en er g)) (hr : Room k X.A) (hm : X.mg x = some (.ref f)) (hk : PySem.W.keepIn X.K (.ref f) = true)
    (hb : Binds X.K fd ps []) (ha : AJ X R Γ (e0 :: es) en ma) (hg : Gl X x := by rfl) (hdb : (x == ("__debug__" : Str)) = false := by decide) (he : starEach (e0 :: es) X.env = (false, eval e0 X.env) :: starEach es X.env := by rfl) (hpl : (backTo pos (starEach es X.env)).any (·.1) = false := by rfl) :
    EJ X R Γ (.Call (.Name x p) (e0 :: es) [] pos) er (bindM ma g) := by
  refine PE.weak (pe_call F hr hg hm hk hb .nil pass0 ha hdb he hpl) fun σ H Q ⟨O, H0, ow, st, z, st', rel, ok, e, q⟩ => ?_
  obtain ⟨a, s1, e1, e2⟩ := bind_some e
  refine ⟨O, H0, ow, st, a, s1, rel, ok, e1, fun vs H1 k1 o1 r1 => ?_⟩
  have rel1 := rel.grow k1 (okZ o1)
  refine ⟨R, avo O Γ ow, a, s1, z, st', fun x h => rel1.zavo h, fun x h => rel1.adom h, o1, by rw [List.append_nil]; exact r1, e2, fun v H' k2 o2 r2 => q v H' (k1.trans k2) o2 r2⟩

/-! ### several names at once -/
theorem q_par2 (i j : Nat) {x y : Str} {a b : Expr} {px py pt : Pos} {kt k2 pt2} {eb : β → PyData} {ma : M α} {mb : M β} (ha : EJ X R Γ a ea ma) (hb : EJ X R Γ b eb mb) (hc : X.calm = true) (hN : X.N.Nodup) (hi : X.N[i]? = some x := by rfl) (hj : X.N[j]? = some y := by rfl) (hij : i ≠ j := by decide)
    (hx : X.env.scope.names.lookup x = some .local := by rfl) (hy : X.env.scope.names.lookup y = some .local := by rfl)
    (hw : swappedStores [.Tuple [.Name x px, .Name y py] kt pt] (.Tuple [a, b] k2 pt2) X.env = pure (some [x, y]) := by rfl)
    (hs : swapsWithSole [.Tuple [.Name x px, .Name y py] kt pt] (.Tuple [a, b] k2 pt2) pos.line X.env = pure false := by rfl)
    (hs1 : starEach [a, b] X.env = (false, eval a X.env) :: starEach [b] X.env := by rfl) (hs2 : starEach [b] X.env = (false, eval b X.env) :: starEach [] X.env := by rfl) :
    QJ X R Γ (.Assign [.Tuple [.Name x px, .Name y py] kt pt] (.Tuple [a, b] k2 pt2) pos) (fun p : α × β => .nx ((Γ.set i (.fz (ea p.1))).set j (.fz (eb p.2)))) (bindM ma fun u => bindM mb fun v => pureM (u, v)) := by
  refine PS.weak (ps_par hc hN hi hj hij hx hy (pa_cons ha (pa_cons hb pa_nil hs2) hs1) hw hs) fun D σ H ⟨O, H0, ow, st, z, st', rel, ok, e, q⟩ => ?_
  obtain ⟨u, s1, e1, e2⟩ := bind_some e
  obtain ⟨v, s2, e3, e4⟩ := bind_some e2
  obtain ⟨rfl, rfl⟩ := pure_some e4
  refine ⟨O, H0, ow, st, u, s1, rel, ok, e1, fun vx H1 k1 o1 r1 => ?_⟩
  have rel1 := rel.grow k1 (okZ o1)
  refine ⟨O, H0, ow, s1, v, s2, rel1, o1, e3, fun vy H2 k2 o2 r2 => ?_⟩
  have rel2 := rel1.grow k2 (okZ o2)
  have less : ∀ a, avo O (Γ.set i (.fz (ea u))) ow a → avo O Γ ow a := fun a z => by
    rcases z with z | ⟨l, d, e5, e6⟩
    · exact .inl z
    · exact .inr ⟨l, d, set_noow _ _ e5, e6⟩
  refine ⟨vx, vy, rfl, q ow _ H2 ((rel2.setFz i (r1.keep (rel1.keepA k2))).setFz j (r2.less less)) o2 ⟨rel.keepA (k1.trans k2), fun l d e5 => .inl (.inr ⟨l, d, set_noow _ _ (set_noow _ _ e5), rfl⟩)⟩⟩
/-- a, b, .. = the items of a tuple -/
theorem q_asg {tg : Expr} {set : List Slot → α → List Slot} {is : List Nat} {enc : α → PyData} {m : M α} (he : EJ X R Γ e enc m) (hg : GJ X tg set is enc) (hset : ∀ Γ x (i : Nat) d, (set Γ x)[i]? = some (.ow d) → Γ[i]? = some (.ow d))
    (hs : swapsWithSole [tg] e pos.line X.env = pure false := by rfl) (hw : swappedStores [tg] e X.env = pure none := by rfl) (h1 : (assignEach [tg] X.env).map (·.2) = [assign tg X.env] := by rfl) :
    QJ X R Γ (.Assign [tg] e pos) (fun r => .nx (set Γ r)) m := by
  refine PS.weak (ps_asg he hg hs hw h1) fun D σ H ⟨O, H0, ow, st, z, st', rel, ok, e, q⟩ => ⟨O, H0, ow, st, z, st', rel, ok, e, fun v H' k o rp => ?_⟩
  refine ⟨R, O, H0, ow, Γ, z, rel.grow k (okZ o), rp, fun σ' rel' _ => q ow σ' H' rel' o ⟨rel.keepA k, fun l d e5 => .inl (.inr ⟨l, d, hset _ _ _ _ e5, rfl⟩)⟩⟩
end
end Pz

namespace Pz
open PySem PySem.Spec PyProof.Rows L2

/-! ### defs that are called where no repr is under way -/
structure FnG (P : Program) (w : World) (K : PySem.W.Frag) (mg : Str → Option Value) (base : Heap) (k : Nat) (f : Addr) (fd : FuncData) (ps : List Str) (sp : Sp) : Prop where
  many : ∀ vs H Q E, sp vs H Q E → vs.length = ps.length
  go : ∀ (A : Around) (above : List Env) (s : Shared) (H : Hp) (args : Args) (us : List Value) (vs : List V) (Q : VK) (E : XK), A.guards = some [] → Room k A → Env0 P w K mg base A above s H → BindsTo s fd args (ps.zip us) → Vals vs us →
    sp vs H Q E → codeAny (model P w) A (.call (.ref f) args) (CR CX0 above P w H s Q E) s
theorem FnG.mono {P : Program} {w : World} {K : PySem.W.Frag} {mg : Str → Option Value} {base : Heap} {j k : Nat} {f : Addr} {fd : FuncData} {ps : List Str} {sp : Sp} (F : FnG P w K mg base j f fd ps sp) (h : j ≤ k) : FnG P w K mg base k f fd ps sp :=
  ⟨F.many, fun A above s H args us vs Q E g r => F.go A above s H args us vs Q E g (r.mono h)⟩
theorem FnOk.toG {P : Program} {w : World} {K : PySem.W.Frag} {mg : Str → Option Value} {base : Heap} {k : Nat} {f : Addr} {fd : FuncData} {ps : List Str} {sp : Sp} (F : FnOk P w K mg base CX0 k f fd ps sp) : FnG P w K mg base k f fd ps sp :=
  ⟨F.len, fun A above s H args us vs Q E _ r e b v h => F.run A above s H args us vs Q E r e b v h⟩
section
variable {α β γ κ ρ ι : Type} {ea : α → PyData} {ec : γ → PyData} {er : ρ → PyData} {ei : ι → PyData} {X : Cx} {R : Res} {Γ Γ' : List Slot} {e c : Expr} {pos : Pos}
theorem guards_in {A : Around} {env : Env} : (A.deeper env).guards = A.guards := rfl
theorem g_def {P : Program} {w : World} {K : PySem.W.Frag} {mg : Str → Option Value} {base : Heap} {x qual : Str} {st : Stmt} {f : Addr} {fd : FuncData} {N ps : List Str} {k : Nat} (F : Fun K x qual st f fd) (S : FnScope N ps (defScope st)) {sp : Sp}
    (many : ∀ vs H Q E, sp vs H Q E → vs.length = ps.length)
    (body : ∀ (cdv : Value) (A : Around) (above : List Env) (s : Shared) (H : Hp) (vs : List V) (Q : VK) (E : XK), A.guards = some [] → Room k (A.deeper (envOfC qual (defScope st) s.heap.objs.size f cdv)) → sp vs H Q E →
      ∃ t, PSs (BX P w K mg base N qual st f cdv A above s H E) (defBody st) t ∧ t { nx := fun _ H' => Q .non H', rt := Q } (L2.start N vs) H) : FnG P w K mg base (k + 1) f fd ps sp := by
  obtain ⟨oc, od, kV, doc, pm, an, cdv, ct, osl, rfl, lk, hcd⟩ := F.ex
  refine ⟨many, fun A above s H args us vs Q E hG room env0 binds vals want => ?_⟩
  have cnt := many vs H Q E want
  have inK : K.In s.heap := env0.mod.kin.keeps (fun b o e => (env0.bs b o e).1)
  have noLim : s.heap.NoLimit := env0.mod.nolimit.keeps (fun b o e => (env0.bs b o e).1)
  have kinds : ∀ y ∈ ps.zip us, (defScope st).names.lookup y.1 = some .local ∨ ((defScope st).names.lookup y.1 = some .cell ∧ ((cellsFrom (s.heap.objs.size + 1) (defScope st).names []).lookup y.1).isSome = true) := by
    rintro ⟨n, v⟩ hy
    exact (S.par n (List.of_mem_zip hy).1).elim .inl fun q => .inr ⟨q, PySem.W.cellsFrom_some _ _ _ (.inl q)⟩
  refine codeAny_call_function room.depth (inK _ _ lk) rfl S.co S.gen rfl (PySem.W.codeRec_of inK hcd) (binds _ _ _ _ (wpAny_newFunctionEnv_cells S.kind kinds fun env he s1 begun => ?_))
  subst he
  refine ⟨noLim.keeps begun.toInCall.keep, codeAny_func ?_⟩
  obtain ⟨t, ht, reading⟩ := body cdv A above s H vs Q E hG (room.deeper _) want
  have inv0 : Inv (cxOf CX0 P w K mg base N qual (defScope st) f cdv A above s H E) [] (L2.start N vs) H s1 := inv_start S room.hd env0 cnt vals begun
  refine wpAny_mono (ht.nox.run [] s1 (L2.start N vs) H _ inv0 reading) (fun fl s' hs => ?_) (fun _ _ z => z)
  cases fl with
  | ret u => obtain ⟨v, σ', H', J, rv, q⟩ := hs; exact ⟨v, H', J.os, J.bare, J.base, J.hok, rv, q⟩
  | next => obtain ⟨σ', H', J, q⟩ := hs; exact ⟨V.non, H', J.os, J.bare, J.base, J.hok, rfl, q⟩
  | brk => obtain ⟨_, _, _, q⟩ := hs; exact q.elim
  | cont => obtain ⟨_, _, _, q⟩ := hs; exact q.elim
theorem g_ok {P : Program} {w : World} {K : PySem.W.Frag} {mg : Str → Option Value} {base : Heap} {x qual : Str} {st : Stmt} {f : Addr} {fd : FuncData} {N ps : List Str} {k : Nat} (F : Fun K x qual st f fd) (S : FnScope N ps (defScope st))
    (en : α → List Slot) (er : ρ → PyData) (g : α → M ρ) (Γ0 : α → List Slot) (hn : ∀ a, (en a).length = ps.length) (hΓ : ∀ a, Pz.entry (en a) (N.length - ps.length) = Γ0 a)
    (body : ∀ (cdv : Value) (A : Around) (above : List Env) (s : Shared) (H : Hp) (E : XK) (R : Res) (a : α), A.guards = some [] → Room k (A.deeper (envOfC qual (defScope st) s.heap.objs.size f cdv)) → SJ (BX P w K mg base N qual st f cdv A above s H E) R (Γ0 a) (defBody st) (fun r => .rt (er r)) (g a)) :
    FnG P w K mg base (k + 1) f fd ps (SpM en er g) := by
  have hpl : ps.length ≤ N.length := by have := congrArg List.length S.pre; rw [List.length_take] at this; omega
  refine g_def F S (fun vs H Q E ⟨R, O, a, st, r, st', _, _, _, h, _⟩ => by rw [h.length, hn]) (fun cdv A above s H vs Q E hG hr h => ?_)
  obtain ⟨R, O, a, u, r, u', hz, hd, ok, hl, e, q⟩ := h
  refine ⟨_, body cdv A above s H E R a hG hr, O, H, fun _ => 0, u, r, u', ?_, ok, e, q⟩
  rw [← hΓ a]
  have := Rel.entry (N := N) hl (by rw [hn]; exact hpl) hz hd
  rw [hn] at this
  exact this
/-- x(..), x a def -/
theorem pe_callG {k : Nat} {f : Addr} {fd : FuncData} {ps : List Str} {sp : Sp} {x : Str} {p : Pos} {e0 : Expr} {es : List Expr} {t : TA} (F : FnG X.prog X.w X.K X.mg X.base k f fd ps sp) (hG : X.A.guards = some []) (hr : Room k X.A) (hg : Gl X x) (hm : X.mg x = some (.ref f)) (hk : PySem.W.keepIn X.K (.ref f) = true)
    (hb : Binds X.K fd ps []) (ha : PA X (e0 :: es) t) (hdb : (x == ("__debug__" : Str)) = false) (he : starEach (e0 :: es) X.env = (false, eval e0 X.env) :: starEach es X.env) (hpl : (backTo pos (starEach es X.env)).any (·.1) = false) :
    PE X (.Call (.Name x p) (e0 :: es) [] pos) (fun σ H Q => t σ H fun vs H1 => sp vs H1 Q E0) := by
  constructor
  intro pins s σ H Q inv want
  refine wpAny_Call_Name_kw (ld_glob inv hg hm ?_ hdb)
  refine PySem.W.callWith_K (h₀ := X.base) inv.ok.mod.kin hk (wpAny_mono (ha.run pos pins s σ H _ inv want) (fun us s1 w1 => ?_) fun _ _ z => z) he hpl
  obtain ⟨vs, H1, inv1, vals, q⟩ := w1
  refine ⟨inv1.kIn, ?_⟩
  have cnt : (us ++ []).length = ps.length := by rw [List.append_nil, ← vals.length]; exact F.many _ _ _ _ q
  have bt := hb s1 us inv1.kIn cnt
  rw [List.append_nil] at bt
  refine wpAny_call (codeAny_mono (F.go X.A X.stack s1 H1 ⟨us, []⟩ us vs Q E0 hG hr inv1.env0 bt vals q) fun r s2 back => ?_)
  cases r with
  | error e => exact False.elim back
  | ok fl =>
    cases fl with
    | ret u => exact inv1.after back
    | next => exact False.elim back
    | brk => exact False.elim back
    | cont => exact False.elim back
theorem e_callG {k : Nat} {f : Addr} {fd : FuncData} {ps : List Str} {x : Str} {p : Pos} {e0 : Expr} {es : List Expr} {en : α → List Slot} {g : α → M ρ} {ma : M α} (F : FnG X.prog X.w X.K X.mg X.base k f fd ps (SpM en er g)) (hG : X.A.guards = some []) (hr : Room k X.A) (hm : X.mg x = some (.ref f)) (hk : PySem.W.keepIn X.K (.ref f) = true)
    (hb : Binds X.K fd ps []) (ha : AJ X R Γ (e0 :: es) en ma) (hg : Gl X x := by rfl) (hdb : (x == ("__debug__" : Str)) = false := by decide) (he : starEach (e0 :: es) X.env = (false, eval e0 X.env) :: starEach es X.env := by rfl) (hpl : (backTo pos (starEach es X.env)).any (·.1) = false := by rfl) :
    EJ X R Γ (.Call (.Name x p) (e0 :: es) [] pos) er (bindM ma g) := by
  refine PE.weak (pe_callG F hG hr hg hm hk hb ha hdb he hpl) fun σ H Q ⟨O, H0, ow, st, z, st', rel, ok, e, q⟩ => ?_
  obtain ⟨a, s1, e1, e2⟩ := bind_some e
  refine ⟨O, H0, ow, st, a, s1, rel, ok, e1, fun vs H1 k1 o1 r1 => ?_⟩
  have rel1 := rel.grow k1 (okZ o1)
  exact ⟨R, avo O Γ ow, a, s1, z, st', fun x h => rel1.zavo h, fun x h => rel1.adom h, o1, r1, e2, fun v H' k2 o2 r2 => q v H' (k1.trans k2) o2 r2⟩
end

/-! ### the law's own call -/
/-- what the law's def promises: True, whatever the script -/
def SpLaw (K : PySem.W.Frag) : Sp := fun vs H Q _ => ∃ (a : Addr) (ns : List Int), vs = [.ref a] ∧ SqL K H a (ns.map V.int) ∧ ns.length ≤ 63 ∧ Only H ∧ ∀ H', Q (.bl true) H'
theorem law_goes {P : Program} {w : World} {K : PySem.W.Frag} {mg mb : Str → Option Value} {k : Nat} {fa a : Addr} {fd : FuncData} {x : Str} {s1 : Shared} {vs : List Value} {ns : List Int} (KX : K.In s1.heap) (gl : s1.heap.Ns mainGlobals mg) (bl : s1.heap.Ns builtinsNs mb)
    (boot : ∀ x : Str, x ≠ "__name__" → mb x = bootBuiltins x) (noLim : s1.heap.NoLimit) (gens : s1.gens = #[]) (ha : s1.heap.get? a = some { cls := .type "list", data := .seq vs.toArray }) (areInts : IntsAre vs ns) (few : ns.length ≤ 63) (hr : Room k callerA)
    (F : ∀ base : Heap, K.In base → base.Ns mainGlobals mg → FnG P w K mg base k fa fd [x] (SpLaw K)) (bind : ∀ (s : Shared) (u : Value), BindsTo s fd ⟨[u], []⟩ [(x, u)]) :
    codeAny (model P w) callerA (.call (.ref fa) ⟨[.ref a], []⟩) (fun r s' => r = .ok (.ret (.bool true)) ∧ OldK s1.heap s'.heap ∧ s'.os = s1.os ∧ AllBare s'.gens) s1 := by
  have vi := vals_ints areInts
  have small : ns.length ≤ sizeLine := Nat.le_trans few (by decide)
  have main : ∀ H : Hp, Only H → SqL K H a (ns.map V.int) → HOk P w H s1.heap → (∀ b, H b ≠ none → b = a) → (H a ≠ none → K.lookup a = none) →
      codeAny (model P w) callerA (.call (.ref fa) ⟨[.ref a], []⟩) (fun r s' => r = .ok (.ret (.bool true)) ∧ OldK s1.heap s'.heap ∧ s'.os = s1.os ∧ AllBare s'.gens) s1 := by
    intro H only sq hok just inKey
    have untouched : ∀ {b : Addr} {o : Obj} {es : Array DictEntry} {ep : Nat}, s1.heap.get? b = some o → o.data = .dict es ep → H b = none := by
      intro b o es ep e d
      by_cases q : H b = none
      · exact q
      · have := just b q
        subst this
        rw [ha] at e
        cases e
        cases (show Data.seq vs.toArray _ = Data.dict es ep from d)
    have nsB : ∀ {b : Addr} {m : Str → Option Value}, s1.heap.Ns b m → (hidT s1.heap H).Ns b m := by
      rintro b m ⟨o, es, ep, e, d, r⟩
      exact ⟨o, es, ep, hidT_get e (untouched e d), d, r⟩
    have inB : K.In (hidT s1.heap H) := by
      intro b o e
      refine hidT_get (KX b o e) ?_
      by_cases q : H b = none
      · exact q
      · have := just b q
        subst this
        rw [inKey q] at e
        cases e
    have md : Mod K mg (hidT s1.heap H) := ⟨inB, nsB gl, ⟨mb, nsB bl, boot⟩, noLim.elim fun mc h => ⟨mc, nsB h.1, h.2⟩⟩
    have start0 : Env0 P w K mg (hidT s1.heap H) callerA [] s1 H := ⟨rfl, md, fun b o e => of_hidT e, Nat.le_of_eq (hidT_size _ _), trivial, fun b hb => (nomatch (show b ∈ ([] : List Addr) from hb)), hok, .of_eq gens⟩
    refine codeAny_mono ((F _ inB (nsB gl)).go callerA [] s1 H ⟨[.ref a], []⟩ [.ref a] [.ref a] (fun v _ => v = .bl true) E0 rfl hr start0 (bind s1 (.ref a)) (.cons rfl .nil) ⟨a, _, rfl, sq, few, only, fun _ => rfl⟩) fun r s' back => ?_
    cases r with
    | error e => exact False.elim back
    | ok fl =>
      cases fl with
      | next => exact False.elim back
      | brk => exact False.elim back
      | cont => exact False.elim back
      | ret u =>
        obtain ⟨v, H', os, bare, un, hok', rv, (rfl : v = .bl true)⟩ := back
        obtain rfl : u = Value.bool true := rv
        refine ⟨rfl, OldK.of_keep fun b o e => ?_, os, bare⟩
        by_cases q : H b = none
        · exact un.keep b o e q (fun z => nomatch (show b ∈ ([] : List Addr) from z)) (by simp)
        · rcases only b with z | ⟨_, _, z⟩
          · exact absurd z q
          · have first := (hok b _ z).1
            rw [e] at first
            cases first
            exact (hok' b _ (un.frzs b _ _ z)).1
  by_cases hk : K.lookup a = none
  · refine main (fun b => if b = a then some (.frz { cls := .type "list", data := .seq vs.toArray } (.lst (ns.map V.int))) else none) (fun b => ?_) (.inl (.inr ⟨{ cls := .type "list", data := .seq vs.toArray }, if_pos rfl⟩)) (fun b u z => ?_) (fun b z => ?_) (fun _ => hk)
    · by_cases hb : b = a
      · exact .inr ⟨_, _, if_pos hb⟩
      · exact .inl (if_neg hb)
    · by_cases hb : b = a
      · cases (if_pos hb).symm.trans z
        rw [hb]
        exact ⟨ha, by rw [List.length_map]; exact small, vs, _, vi, ha⟩
      · cases (if_neg hb).symm.trans z
    · exact Decidable.by_contra fun hb => z (if_neg hb)
  · obtain ⟨o, ho⟩ := Option.ne_none_iff_exists'.mp hk
    have e := KX a o ho
    rw [ha] at e
    cases e
    have lenV := areInts.length
    exact main (fun _ => none) (fun _ => .inl rfl) (.inr ⟨_, vs.toArray, _, ho, rfl, rfl, rfl, by rw [List.size_toArray, lenV]; exact small, by simpa using vi⟩) (fun b u z => nomatch (show (none : Option HO) = some u from z)) (fun b z => absurd rfl z) fun z => absurd rfl z
/-- the goal that k_head leaves, from the law's promise -/
theorem law_walk {l : PySem.W.OpenLaw} {k : Nat} {q : Program} {loose : List Str} {XP : (Str → Option Value) → Heap → Prop} {YP : World → Heap → Prop} {d : DefRec} {K : Params → PySem.W.Frag} {x : Str} (hn : l.most = some 63) (hdf : d.params.defaults = []) (hr : Room k callerA)
    (hY : ∀ (w : World) (h : Heap), YP w h → (K w.params).In h)
    (F : ∀ (w : World) (mg : Str → Option Value) (fa : Addr) (h : Heap), (K w.params).In h → h.Ns mainGlobals mg → mg d.name = some (.ref fa) →
      ∃ fd : FuncData, (∀ (s : Shared) (u : Value), BindsTo s fd ⟨[u], []⟩ [(x, u)]) ∧ ∀ base : Heap, (K w.params).In base → base.Ns mainGlobals mg → FnG l.prog w (K w.params) mg base k fa fd [x] (SpLaw (K w.params))) :
    PySem.W.WalkO q loose XP YP l.row.toRowW d [] (fun f vs => PySem.call f vs) :=
  Att.attach_call hn hdf fun w s0 s1 mg mb fa o pm cd doc a vs ns G Y _ _ _ hmg hobj hints hlen hg => by
    obtain ⟨fd, hb, hF⟩ := F w mg fa _ (hY w _ Y) G.T.g hmg
    exact law_goes (hY w _ Y) G.T.g G.T.b G.T.builtins G.T.nolimit hg hobj hints hlen hr hF hb
end Pz

namespace Pz
open PySem PySem.Spec PyProof.Rows L2

section
variable {α β γ δ ρ : Type} {ea : α → PyData} {eb : β → PyData} {ec : γ → PyData} {X : Cx} {R : Res} {Γ : List Slot} {e a b c : Expr} {pos : Pos}
/-! ### ints -/
theorem v_int2 {g : Int → Int → Int} : VOp (rI0 fun i j => .int (g i j)) eInt eInt eInt (fun x y => some (g x y)) := fun A H x y vx vy Q z ad r1 r2 e q => by
  cases r1; cases r2; cases e
  exact ⟨_, _, rfl, rfl, q _ H (Same.refl H) (.int _)⟩
theorem v_cmp2 {g : Int → Int → Bool} : VOp (rI0 fun i j => .bl (g i j)) eInt eInt eBool (fun x y => some (g x y)) := fun A H x y vx vy Q z ad r1 r2 e q => by
  cases r1; cases r2; cases e
  exact ⟨_, _, rfl, rfl, q _ H (Same.refl H) (.bl _)⟩
def mulO (x y : Int) : Option Int := if x.natAbs < 2 ^ 64 ∨ y.natAbs < 2 ^ 64 then some (x * y) else none
def divO (x y : Int) : Option Int := if y ≠ 0 ∧ y.natAbs < 1073741824 then some (x.fdiv y) else none
def modO (x y : Int) : Option Int := if y ≠ 0 then some (x.fmod y) else none
def powO (x y : Int) : Option Int := if 0 ≤ y ∧ y ≤ 1000000 ∧ x.natAbs < 2 ^ 64 then some (x ^ y.toNat) else none
def shlO (x y : Int) : Option Int := if 0 ≤ y ∧ y ≤ 1000000 ∧ x.natAbs < 2 ^ 64 then some (x * 2 ^ y.toNat) else none
theorem oif {α : Type} {p : Prop} [Decidable p] {a b : α} (h : (if p then some a else none) = some b) : p ∧ a = b := by
  by_cases hp : p
  · rw [if_pos hp] at h; exact ⟨hp, Option.some.inj h⟩
  · rw [if_neg hp] at h; cases h
theorem v_mul : VOp (rI CMul fun i j => .int (i * j)) eInt eInt eInt mulO := fun A H x y vx vy Q z ad r1 r2 e q => by
  cases r1; cases r2
  obtain ⟨h, rfl⟩ := oif e
  refine ⟨_, _, rfl, rfl, ?_, q _ H (Same.refl H) (.int _)⟩
  rcases h with h | h
  · left; omega
  · right; omega
theorem v_div : VOp (rI CDivN fun i j => .int (i.fdiv j)) eInt eInt eInt divO := fun A H x y vx vy Q z ad r1 r2 e q => by
  cases r1; cases r2
  obtain ⟨h, rfl⟩ := oif e
  exact ⟨_, _, rfl, rfl, h, q _ H (Same.refl H) (.int _)⟩
theorem v_mod : VOp (rI (fun _ j => j ≠ 0) fun i j => .int (i.fmod j)) eInt eInt eInt modO := fun A H x y vx vy Q z ad r1 r2 e q => by
  cases r1; cases r2
  obtain ⟨h, rfl⟩ := oif e
  exact ⟨_, _, rfl, rfl, h, q _ H (Same.refl H) (.int _)⟩
theorem v_pow : VOp (rI CPow fun i j => .int (i ^ j.toNat)) eInt eInt eInt powO := fun A H x y vx vy Q z ad r1 r2 e q => by
  cases r1; cases r2
  obtain ⟨h, rfl⟩ := oif e
  exact ⟨_, _, rfl, rfl, h, q _ H (Same.refl H) (.int _)⟩
theorem v_shl : VOp (rI CPow fun i j => .int (i * 2 ^ j.toNat)) eInt eInt eInt shlO := fun A H x y vx vy Q z ad r1 r2 e q => by
  cases r1; cases r2
  obtain ⟨h, rfl⟩ := oif e
  exact ⟨_, _, rfl, rfl, h, q _ H (Same.refl H) (.int _)⟩
theorem v_neg : V1 (rU fun i => .int (-i)) eInt eInt (fun x => some (-x)) := fun A H x vx Q z ad r1 e q => by
  cases r1; cases e
  exact ⟨_, rfl, q _ H (Same.refl H) (.int _)⟩
/-- the same of numbers, texts, truth values -/
theorem v_eqS [DecidableEq α] (f : α → V) (hf : ∀ (A : Av) (H : Hp) x v, Rp A H v (ea x) → v = f x) (hs : ∀ x y, scal (f x) (f y) = true) (hi : ∀ x y, f x = f y → x = y) : VOp rEq ea ea eBool (fun x y => some (decide (x = y))) := fun A H x y vx vy Q z ad r1 r2 e q => by
  cases e
  have e1 := hf _ _ _ _ r1
  have e2 := hf _ _ _ _ r2
  subst e1 e2
  refine ⟨hs _ _, ?_⟩
  rw [show decide (f x = f y) = decide (x = y) from decide_eq_decide.mpr ⟨hi x y, fun z => by rw [z]⟩]
  exact q _ H (Same.refl H) (.bl _)
theorem v_neS [DecidableEq α] (f : α → V) (hf : ∀ (A : Av) (H : Hp) x v, Rp A H v (ea x) → v = f x) (hs : ∀ x y, scal (f x) (f y) = true) (hi : ∀ x y, f x = f y → x = y) : VOp rNe ea ea eBool (fun x y => some (!decide (x = y))) := fun A H x y vx vy Q z ad r1 r2 e q => by
  cases e
  have e1 := hf _ _ _ _ r1
  have e2 := hf _ _ _ _ r2
  subst e1 e2
  refine ⟨hs _ _, ?_⟩
  rw [show decide (f x = f y) = decide (x = y) from decide_eq_decide.mpr ⟨hi x y, fun z => by rw [z]⟩]
  exact q _ H (Same.refl H) (.bl _)
theorem v_eqI : VOp rEq eInt eInt eBool (fun x y => some (decide (x = y))) := v_eqS V.int (fun A H x v r => by cases r; rfl) (fun _ _ => rfl) fun x y h => by cases h; rfl
theorem v_neI : VOp rNe eInt eInt eBool (fun x y => some (!decide (x = y))) := v_neS V.int (fun A H x v r => by cases r; rfl) (fun _ _ => rfl) fun x y h => by cases h; rfl
theorem v_eqB : VOp rEq eBool eBool eBool (fun x y => some (decide (x = y))) := v_eqS V.bl (fun A H x v r => by cases r; rfl) (fun _ _ => rfl) fun x y h => by cases h; rfl
theorem v_neB : VOp rNe eBool eBool eBool (fun x y => some (!decide (x = y))) := v_neS V.bl (fun A H x v r => by cases r; rfl) (fun _ _ => rfl) fun x y h => by cases h; rfl
theorem v_eqT : VOp rEq eStr eStr eBool (fun x y => some (decide (x = y))) := v_eqS V.str (fun A H x v r => by cases r; rfl) (fun _ _ => rfl) fun x y h => by cases h; rfl
theorem v_neT : VOp rNe eStr eStr eBool (fun x y => some (!decide (x = y))) := v_neS V.str (fun A H x v r => by cases r; rfl) (fun _ _ => rfl) fun x y h => by cases h; rfl

/-! ### data as a whole -/
mutual
def noLst : PyData → Bool
  | .list _ => false
  | .dict kvs => kvs.isEmpty
  | .tuple ds => noLsts ds
  | _ => true
def noLsts : List PyData → Bool
  | [] => true
  | d :: ds => noLst d && noLsts ds
end
mutual
theorem Rp.reads {pins : List (Addr × Obj)} {σ : L2.St} {H : Hp} {s : Shared} {A : Av} (I : Inv X pins σ H s) : ∀ (d : PyData) (v : V) (u : Value), Rp A H v d → RelV v u → ∃ as, Reads s.heap u d as ∧ (noLst d = true → sysModules ∉ as)
  | .none, _, _, h, r => by cases h; cases r; exact ⟨_, .none, by simp⟩
  | .bool b, _, _, h, r => by cases h; cases r; exact ⟨_, .bool b, by simp⟩
  | .int i, _, _, h, r => by cases h; obtain ⟨t, rfl⟩ := r; exact ⟨_, .int i t, by simp⟩
  | .str x, _, _, h, r => by cases h; obtain ⟨t, rfl⟩ := r; exact ⟨_, .str x t, by simp⟩
  | .list ds, _, _, h, r => by
    cases h with
    | @lst a vs _ na ha hr =>
      cases r
      obtain ⟨_, its, n, rv, ho⟩ := I.hok _ _ ha
      obtain ⟨as, q1, q2⟩ := RpAll.reads I ds _ its hr rv
      exact ⟨_, .list ho rfl rfl q1, by simp [noLst]⟩
  | .tuple ds, _, _, h, r => by
    cases h with
    | @tup a vs _ na ha hr =>
      cases r
      obtain ⟨_, its, rv, o, ho, hc, n, hd⟩ := I.hok _ _ ha
      obtain ⟨as, q1, q2⟩ := RpAll.reads I ds _ its hr rv
      exact ⟨_, .tuple ho hc hd q1, by simpa [noLst] using q2⟩
  | .dict _, _, _, h, r => by
    cases h with
    | @dic a na ha =>
      cases r
      obtain ⟨_, hs, vs, kv, o, es, ep, ho, hx, hd, he, hp, _⟩ := I.hok _ _ ha
      cases kv
      have e0 : es.toList = [] := by
        cases h0 : es.toList with
        | nil => rfl
        | cons a r => rw [h0] at hp; cases hp
      refine ⟨_, .dict (kvs := []) ho hx.1 hd (by rw [e0]; exact .nil) (by rw [e0]; exact .nil), fun _ z => ?_⟩
      have : sysModules = a := by simpa using z
      rw [← this] at hs
      simp at hs
theorem RpAll.reads {pins : List (Addr × Obj)} {σ : L2.St} {H : Hp} {s : Shared} {A : Av} (I : Inv X pins σ H s) : ∀ (ds : List PyData) (vs : List V) (us : List Value), RpAll A H vs ds → Vals vs us → ∃ as, ReadsAll s.heap us ds as ∧ (noLsts ds = true → sysModules ∉ as)
  | [], _, _, h, r => by cases h; cases r; exact ⟨_, .nil, by simp⟩
  | d :: ds, _, _, h, r => by
    cases h with
    | cons h1 h2 =>
      cases r with
      | cons r1 r2 =>
        obtain ⟨as, q1, n1⟩ := Rp.reads I d _ _ h1 r1
        obtain ⟨bs, q2, n2⟩ := RpAll.reads I ds _ _ h2 r2
        refine ⟨_, .cons q1 q2, fun h => ?_⟩
        simp only [noLsts, Bool.and_eq_true] at h
        rw [List.mem_append]
        exact fun z => z.elim (n1 h.1) (n2 h.2)
end
/-- encodings whose data are equal just where the Lean values are -/
structure Dc (n : Nat) [DecidableEq α] (e : α → PyData) : Prop where
  plain : ∀ x, (e x).plain = true
  depth : ∀ x, (e x).depth ≤ n
  eqv : ∀ x y, PyData.eqv (e x) (e y) = decide (x = y)
theorem Dc.int {n : Nat} : Dc n eInt := ⟨fun _ => rfl, fun x => by simp [eInt, PyData.depth], fun x y => by simp [eInt, PyData.eqv]; exact Bool.beq_eq_decide_eq x y⟩
theorem Dc.bool {n : Nat} : Dc n eBool := ⟨fun _ => rfl, fun x => by simp [eBool, PyData.depth], fun x y => by simp [eBool, PyData.eqv]; exact Bool.beq_eq_decide_eq x y⟩
theorem Dc.str {n : Nat} : Dc n eStr := ⟨fun _ => rfl, fun x => by simp [eStr, PyData.depth], fun x y => by simp [eStr, PyData.eqv]; exact Bool.beq_eq_decide_eq x y⟩
theorem Dc.mono {n m : Nat} [DecidableEq α] (h : Dc n ea) (k : n ≤ m) : Dc m ea := ⟨h.plain, fun x => Nat.le_trans (h.depth x) k, h.eqv⟩
theorem Dc.plainAll {n : Nat} [DecidableEq α] (h : Dc n ea) : ∀ xs : List α, PyData.plainAll (xs.map ea) = true
  | [] => rfl
  | x :: xs => by simp [PyData.plainAll, h.plain x, Dc.plainAll h xs]
theorem Dc.depthAll {n : Nat} [DecidableEq α] (h : Dc n ea) : ∀ xs : List α, PyData.depthAll (xs.map ea) ≤ n
  | [] => Nat.zero_le _
  | x :: xs => by
    have h1 := h.depth x
    have h2 := Dc.depthAll h xs
    simp only [List.map_cons, PyData.depthAll]
    omega
theorem Dc.eqvAll {n : Nat} [DecidableEq α] (h : Dc n ea) : ∀ xs ys : List α, PyData.eqvAll (xs.map ea) (ys.map ea) = decide (xs = ys)
  | [], [] => by simp [PyData.eqvAll]
  | [], _ :: _ => by simp [PyData.eqvAll]
  | _ :: _, [] => by simp [PyData.eqvAll]
  | x :: xs, y :: ys => by simp [PyData.eqvAll, h.eqv x y, Dc.eqvAll h xs ys, Bool.decide_and]
theorem Dc.tup {n : Nat} [DecidableEq α] (h : Dc n ea) : Dc (n + 1) (eT ea) := ⟨fun xs => by simp [eT, PyData.plain, h.plainAll xs], fun xs => by have := h.depthAll xs; simp only [eT, PyData.depth]; omega, fun xs ys => by simp [eT, PyData.eqv, h.eqvAll xs ys]⟩
theorem Dc.lst {n : Nat} [DecidableEq α] (h : Dc n ea) : Dc (n + 1) (eL ea) := ⟨fun xs => by simp [eL, PyData.plain, h.plainAll xs], fun xs => by have := h.depthAll xs; simp only [eL, PyData.depth]; omega, fun xs ys => by simp [eL, PyData.eqv, h.eqvAll xs ys]⟩
structure Dcs (n : Nat) [DecidableEq α] (f : α → List PyData) : Prop where
  plain : ∀ x, PyData.plainAll (f x) = true
  depth : ∀ x, PyData.depthAll (f x) ≤ n
  eqv : ∀ x y, PyData.eqvAll (f x) (f y) = decide (x = y)
theorem Dcs.nil {n : Nat} : Dcs n eU := ⟨fun _ => rfl, fun _ => Nat.zero_le _, fun x y => by simp [eU, PyData.eqvAll]⟩
theorem Dcs.cons {n : Nat} [DecidableEq α] [DecidableEq β] {f : β → List PyData} (h : Dc n ea) (k : Dcs n f) : Dcs n (eC ea f) := ⟨fun p => by simp [eC, PyData.plainAll, h.plain, k.plain], fun p => by have h1 := h.depth p.1; have h2 := k.depth p.2; simp only [eC, PyData.depthAll]; omega, fun p q => by
  obtain ⟨a, b⟩ := p
  obtain ⟨c, d⟩ := q
  simp [eC, PyData.eqvAll, h.eqv, k.eqv, Bool.decide_and]⟩
theorem Dc.pr {n : Nat} [DecidableEq α] {f : α → List PyData} (h : Dcs n f) : Dc (n + 1) (eP f) := ⟨fun p => by simp [eP, PyData.plain, h.plain], fun p => by have := h.depth p; simp only [eP, PyData.depth]; omega, fun p q => by simp [eP, PyData.eqv, h.eqv]⟩

/-- ==, != of data -/
def rEqP : R2 := fun x y H Q => ∃ A d e, Rp A H x d ∧ Rp A H y e ∧ d.plain = true ∧ e.plain = true ∧ d.depth ≤ 60 ∧ Q (.bl (PyData.eqv d e)) H
def rNeP : R2 := fun x y H Q => ∃ A d e, Rp A H x d ∧ Rp A H y e ∧ d.plain = true ∧ e.plain = true ∧ d.depth ≤ 60 ∧ Q (.bl (!PyData.eqv d e)) H
theorem op_eqP (hu : X.A.units + 64 < cLine) : OpR X (compareOp .Eq) rEqP := fun pins s σ H x y v u Q I rx ry h => by
  obtain ⟨A, d, e, hd, he, p1, p2, dp, q⟩ := h
  obtain ⟨as, r1, _⟩ := Rp.reads I d x v hd rx
  obtain ⟨bs, r2, _⟩ := Rp.reads I e y u he ry
  exact SeqAt.eq_plain r1 r2 p1 p2 (by omega) ⟨.bl _, H, I, rfl, q⟩
theorem op_neP (hu : X.A.units + 64 < cLine) : OpR X (compareOp .NotEq) rNeP := fun pins s σ H x y v u Q I rx ry h => by
  obtain ⟨A, d, e, hd, he, p1, p2, dp, q⟩ := h
  obtain ⟨as, r1, _⟩ := Rp.reads I d x v hd rx
  obtain ⟨bs, r2, _⟩ := Rp.reads I e y u he ry
  exact SeqAt.ne_plain r1 r2 p1 p2 (by omega) ⟨.bl _, H, I, rfl, q⟩
theorem v_eqP {n : Nat} [DecidableEq α] (h : Dc n ea) (hn : n ≤ 60 := by decide) : VOp rEqP ea ea eBool (fun x y => some (decide (x = y))) := fun A H x y vx vy Q z ad r1 r2 e q => by
  cases e
  refine ⟨A, _, _, r1, r2, h.plain _, h.plain _, Nat.le_trans (h.depth _) hn, ?_⟩
  rw [h.eqv]
  exact q _ H (Same.refl H) (.bl _)
theorem v_neP {n : Nat} [DecidableEq α] (h : Dc n ea) (hn : n ≤ 60 := by decide) : VOp rNeP ea ea eBool (fun x y => some (!decide (x = y))) := fun A H x y vx vy Q z ad r1 r2 e q => by
  cases e
  refine ⟨A, _, _, r1, r2, h.plain _, h.plain _, Nat.le_trans (h.depth _) hn, ?_⟩
  rw [h.eqv]
  exact q _ H (Same.refl H) (.bl _)
/-- .. of any data -/
def eqD (d e : PyData) : Option Bool := if d.plain = true ∧ e.plain = true ∧ d.depth ≤ 60 then some (PyData.eqv d e) else none
theorem v_eqD : VOp rEqP ea eb eBool (fun x y => eqD (ea x) (eb y)) := fun A H x y vx vy Q z ad r1 r2 e q => by
  obtain ⟨⟨h1, h2, h3⟩, rfl⟩ := oif e
  exact ⟨A, _, _, r1, r2, h1, h2, h3, q _ H (Same.refl H) (.bl _)⟩
theorem v_neD : VOp rNeP ea eb eBool (fun x y => (eqD (ea x) (eb y)).map (!·)) := fun A H x y vx vy Q z ad r1 r2 e q => by
  obtain ⟨b, e1, rfl⟩ := Option.map_eq_some_iff.mp e
  obtain ⟨⟨h1, h2, h3⟩, rfl⟩ := oif e1
  exact ⟨A, _, _, r1, r2, h1, h2, h3, q _ H (Same.refl H) (.bl _)⟩

/-! ### repr -/
def reprO (d : PyData) : Option Str := if d.showable = true ∧ (d.hasDict = true → noLst d = true) ∧ d.depth ≤ 60 ∧ d.shown.length ≤ sizeLine then some d.shown else none
def rRepr : List V → Hp → VK → Prop := fun xs H Q => ∃ A x d z, xs = [x] ∧ Rp A H x d ∧ reprO d = some z ∧ Q (.str z) H
theorem call_reprD (hu : X.A.units + 64 < cLine) (hg : X.A.guards = some []) : CallR X (.builtin "repr") rRepr := fun pins s σ H xs us Q I r h => by
  obtain ⟨A, x, d, z, rfl, hd, e, q⟩ := h
  obtain ⟨u, rfl, ru⟩ := vals1 r
  obtain ⟨⟨h1, h2, h3, h4⟩, rfl⟩ := oif e
  have fin : ∀ h' t tk, (∀ b o, s.heap.get? b = some o → h'.get? b = some o) → EP X pins σ Q (.str d.shown t) { s with heap := h', toks := tk } := fun h' t tk k => ⟨.str d.shown, H, I.kept k, ⟨_, rfl⟩, q⟩
  have fin0 : ∀ t tk, EP X pins σ Q (.str d.shown t) { s with toks := tk } := fun t tk => fin s.heap t tk fun _ _ e => e
  cases d with
  | none => cases hd; cases ru; exact PySem.P.repr_of_none (by have := fin0 s.toks (s.toks + 1); simp only [PyData.shown] at this; exact this)
  | bool b => cases hd; cases ru; exact PySem.P.repr_of_bool (by have := fin0 s.toks (s.toks + 1); simp only [PyData.shown] at this; exact this)
  | int i => cases hd; obtain ⟨t, rfl⟩ := ru; exact PySem.P.repr_of_int (by simpa [PyData.showable] using h1) (by have := fin0 s.toks (s.toks + 1); simp only [PyData.shown] at this; exact this)
  | str x => cases hd; obtain ⟨t, rfl⟩ := ru; exact PySem.P.repr_of_str (by have := fin0 s.toks (s.toks + 1); simp only [PyData.shown] at this; exact this) (by simpa only [PyData.shown] using h4)
  | list ds =>
    obtain ⟨as, rr, hs⟩ := Rp.reads I _ _ _ hd ru
    cases hd with
    | lst _ _ _ => cases ru; exact repr_of_reads' rr h1 (fun h => hs (h2 h)) hg (by omega) (fun _ _ e => e) fin h4
  | tuple ds =>
    obtain ⟨as, rr, hs⟩ := Rp.reads I _ _ _ hd ru
    cases hd with
    | tup _ _ _ => cases ru; exact repr_of_reads' rr h1 (fun h => hs (h2 h)) hg (by omega) (fun _ _ e => e) fin h4
  | dict kvs =>
    obtain ⟨as, rr, hs⟩ := Rp.reads I _ _ _ hd ru
    cases hd with
    | dic _ _ => cases ru; exact repr_of_reads' rr h1 (fun h => hs (h2 h)) hg (by omega) (fun _ _ e => e) fin h4
theorem v_repr : VN rRepr (fun x : α × Unit => [ea x.1]) eStr (fun x => reprO (ea x.1)) := fun A H x vs Q z ad r e q => by
  cases r with
  | cons r1 r2 => cases r2; exact ⟨A, _, _, z, rfl, r1, e, q _ H (Same.refl H) (.str _)⟩

/-! ### lists and tuples -/
theorem rix {K : PySem.W.Frag} {A : Av} {H : Hp} {xs : List α} {i : Int} {z : α} {vs : List V} (r : RpAll A H vs (xs.map ea)) (h : atI xs i = some z) : ∃ v, atI vs i = some v ∧ Rp A H v (ea z) := by
  unfold atI at h ⊢
  obtain ⟨j, e1, e2⟩ := Option.bind_eq_some_iff.mp h
  rw [show vs.length = xs.length by rw [r.length, List.length_map], e1]
  exact r.get (by rw [List.getElem?_map, e2]; rfl)
theorem v_ixL {K : PySem.W.Frag} : VOp (rIxL K) (eL ea) eInt ea (fun xs i => atI xs i) := fun A H x y vx vy Q z ad r1 r2 e q => by
  cases r2
  cases r1 with
  | lst na ha hr =>
    obtain ⟨v, h1, h2⟩ := rix (K := K) hr e
    exact ⟨_, _, _, v, rfl, rfl, SqL.of ha, h1, q v H (Same.refl H) h2⟩
theorem v_ixT {K : PySem.W.Frag} : VOp (rIxT K) (eT ea) eInt ea (fun xs i => atI xs i) := fun A H x y vx vy Q z ad r1 r2 e q => by
  cases r2
  cases r1 with
  | tup na ha hr =>
    obtain ⟨v, h1, h2⟩ := rix (K := K) hr e
    exact ⟨_, _, _, v, rfl, rfl, SqT.of ha, h1, q v H (Same.refl H) h2⟩
/-- a place in a tuple of a written length -/
theorem v_ixP {K : PySem.W.Frag} {f : α → List PyData} (g : α → γ) (j : Nat) (hj : ∀ x, (f x)[j]? = some (ec (g x))) : VOp (rIxT K) (eP f) eInt ec (fun x i => if i = (j : Int) then some (g x) else none) := fun A H x y vx vy Q z ad r1 r2 e q => by
  cases r2
  obtain ⟨rfl, rfl⟩ := oif e
  cases r1 with
  | tup na ha hr =>
    obtain ⟨v, h1, h2⟩ := hr.get (hj x)
    exact ⟨_, _, _, v, rfl, rfl, SqT.of ha, atI_nat h1, q v H (Same.refl H) h2⟩
def rLen1 (K : PySem.W.Frag) : List V → Hp → VK → Prop := fun xs H Q => ∃ p ys, xs = [.ref p] ∧ (SqL K H p ys ∨ SqT K H p ys) ∧ Q (.int ys.length) H
theorem v_lenL {K : PySem.W.Frag} : VN (rLen1 K) (fun x : List α × Unit => [eL ea x.1]) eInt (fun x => some (x.1.length : Int)) := fun A H x vs Q z ad r e q => by
  cases e
  cases r with
  | cons r1 r2 =>
    cases r2
    cases r1 with
    | lst na ha hr => exact ⟨_, _, rfl, .inl (SqL.of ha), by rw [hr.length, List.length_map]; exact q _ H (Same.refl H) (.int _)⟩
theorem v_lenT {K : PySem.W.Frag} : VN (rLen1 K) (fun x : List α × Unit => [eT ea x.1]) eInt (fun x => some (x.1.length : Int)) := fun A H x vs Q z ad r e q => by
  cases e
  cases r with
  | cons r1 r2 =>
    cases r2
    cases r1 with
    | tup na ha hr => exact ⟨_, _, rfl, .inr (SqT.of ha), by rw [hr.length, List.length_map]; exact q _ H (Same.refl H) (.int _)⟩
/-- list(xs), list(t), tuple(xs), tuple(t) -/
def rList1 (K : PySem.W.Frag) : List V → Hp → VK → Prop := fun xs H Q => ∃ p ys, xs = [.ref p] ∧ (SqL K H p ys ∨ SqT K H p ys) ∧ ∀ l, H l = none → Q (.ref l) (upd H l (.lst ys))
def rTup1 (K : PySem.W.Frag) : List V → Hp → VK → Prop := fun xs H Q => ∃ p ys, xs = [.ref p] ∧ ((SqL K H p ys ∧ ∀ l, H l = none → Q (.ref l) (upd H l (.tup ys))) ∨ (SqT K H p ys ∧ Q (.ref p) H))
theorem v_listL {K : PySem.W.Frag} : VNF (rList1 K) (fun x : List α × Unit => [eL ea x.1]) ea (fun x => some x.1) := fun A H x vs Q z ad r e q => by
  cases e
  cases r with
  | cons r1 r2 =>
    cases r2
    cases r1 with
    | lst na ha hr => exact ⟨_, _, rfl, .inl (SqL.of ha), fun l n => q l _ _ n (same_new n) upd_same (hr.at n (Keep.of_same (same_new n)))⟩
theorem v_listT {K : PySem.W.Frag} : VNF (rList1 K) (fun x : List α × Unit => [eT ea x.1]) ea (fun x => some x.1) := fun A H x vs Q z ad r e q => by
  cases e
  cases r with
  | cons r1 r2 =>
    cases r2
    cases r1 with
    | tup na ha hr => exact ⟨_, _, rfl, .inr (SqT.of ha), fun l n => q l _ _ n (same_new n) upd_same (hr.at n (Keep.of_same (same_new n)))⟩
theorem v_tupL {K : PySem.W.Frag} : VN (rTup1 K) (fun x : List α × Unit => [eL ea x.1]) (eT ea) (fun x => some x.1) := fun A H x vs Q z ad r e q => by
  cases e
  cases r with
  | cons r1 r2 =>
    cases r2
    cases r1 with
    | lst na ha hr => exact ⟨_, _, rfl, .inl ⟨SqL.of ha, fun l n => q _ _ (same_new n) (.tup (ad.fresh n) upd_same (hr.keep (Keep.of_same (same_new n))))⟩⟩
theorem v_tupT {K : PySem.W.Frag} : VN (rTup1 K) (fun x : List α × Unit => [eT ea x.1]) (eT ea) (fun x => some x.1) := fun A H x vs Q z ad r e q => by
  cases e
  cases r with
  | cons r1 r2 =>
    cases r2
    cases r1 with
    | tup na ha hr => exact ⟨_, _, rfl, .inr ⟨SqT.of ha, q _ H (Same.refl H) (.tup na ha hr)⟩⟩
/-- xs + ys, xs * k -/
def catO (xs ys : List α) : Option (List α) := if xs.length + ys.length ≤ sizeLine then some (xs ++ ys) else none
theorem v_catL : VOpF rCat (eL ea) (eL ea) ea catO := fun A H x y vx vy Q z ad r1 r2 e q => by
  obtain ⟨h, rfl⟩ := oif e
  cases r1 with
  | lst na ha hr =>
    cases r2 with
    | lst nb hb hr2 =>
      exact ⟨_, _, _, _, rfl, rfl, ha, hb, by rw [hr.length, hr2.length, List.length_map, List.length_map]; exact h, fun p n => q p _ _ n (same_new n) upd_same (by rw [List.map_append]; exact (hr.append hr2).at n (Keep.of_same (same_new n)))⟩
theorem v_catT {K : PySem.W.Frag} : VOp (rCatA K) (eT ea) (eT ea) (eT ea) catO := fun A H x y vx vy Q z ad r1 r2 e q => by
  obtain ⟨h, rfl⟩ := oif e
  cases r1 with
  | @tup a vs _ na ha hr =>
    cases r2 with
    | @tup b ws _ nb hb hr2 =>
      have ra := hr.append hr2
      rw [← List.map_append] at ra
      refine ⟨_, _, _, _, rfl, rfl, SqT.of ha, SqT.of hb, by rw [hr.length, hr2.length, List.length_map, List.length_map]; exact h, fun h0 => ?_, fun _ h0 => ?_, fun _ _ p n => ?_⟩
      · subst h0; exact q _ H (Same.refl H) (.tup nb hb ra)
      · subst h0; rw [List.append_nil] at ra; exact q _ H (Same.refl H) (.tup na ha ra)
      · exact q _ _ (same_new n) (.tup (ad.fresh n) upd_same (ra.keep (Keep.of_same (same_new n))))
def repO (xs : List α) (k : Int) : Option (List α) := if -(2 ^ 63) ≤ k ∧ k < 2 ^ 63 ∧ xs.length * k.toNat ≤ sizeLine then some (List.replicate k.toNat xs).flatten else none
end
end Pz

namespace Pz
open PySem PySem.Spec PyProof.Rows L2

section
variable {α β γ δ ρ : Type} {ea : α → PyData} {eb : β → PyData} {ec : γ → PyData} {X : Cx} {R : Res} {Γ : List Slot} {e a b c : Expr} {pos : Pos}
theorem RpAll.repeat {A : Av} {H : Hp} {vs : List V} {ds : List PyData} (r : RpAll A H vs ds) : ∀ k : Nat, RpAll A H (List.replicate k vs).flatten (List.replicate k ds).flatten
  | 0 => .nil
  | k + 1 => by
    rw [List.replicate_succ, List.replicate_succ, List.flatten_cons, List.flatten_cons]
    exact r.append (RpAll.repeat r k)
theorem map_rep {f : α → PyData} (xs : List α) : ∀ k : Nat, ((List.replicate k xs).flatten).map f = (List.replicate k (xs.map f)).flatten := fun k => by
  rw [List.map_flatten, List.map_replicate]
theorem v_repL : VOpF rRep (eL ea) eInt ea repO := fun A H x y vx vy Q z ad r1 r2 e q => by
  obtain ⟨⟨h1, h2, h3⟩, rfl⟩ := oif e
  cases r2
  cases r1 with
  | lst na ha hr =>
    exact ⟨_, _, _, rfl, rfl, ha, h1, h2, by rw [hr.length, List.length_map]; exact h3, fun p n => q p _ _ n (same_new n) upd_same (by rw [map_rep]; exact (hr.repeat _).at n (Keep.of_same (same_new n)))⟩
def repTO (xs : List α) (k : Int) : Option (List α) := if xs ≠ [] ∧ 2 ≤ k ∧ k ≤ 1000 ∧ xs.length ≤ 1000 then some (List.replicate k.toNat xs).flatten else none
theorem v_repT {K : PySem.W.Frag} : VOp (rRepT K) (eT ea) eInt (eT ea) repTO := fun A H x y vx vy Q z ad r1 r2 e q => by
  obtain ⟨⟨h0, h1, h2, h3⟩, rfl⟩ := oif e
  cases r2
  cases r1 with
  | @tup p0 vs _ na ha hr =>
    have hl := hr.length
    rw [List.length_map] at hl
    refine ⟨_, _, _, rfl, rfl, SqT.of ha, fun z => ?_, h1, h2, by omega, fun p n => q _ _ (same_new n) (.tup (ad.fresh n) upd_same (by rw [map_rep]; exact (hr.repeat _).keep (Keep.of_same (same_new n))))⟩
    subst z
    exact h0 (List.eq_nil_of_length_eq_zero hl.symm)

/-! ### slices -/
theorem cut_rp {A : Av} {H : Hp} {vs : List V} {ds : List PyData} (r : RpAll A H vs ds) (lo hi : Option Int) : RpAll A H (cutV vs lo hi) ((ds.drop (HT.sIx ds.length 0 lo)).take (HT.sIx ds.length ds.length hi - HT.sIx ds.length 0 lo)) := by
  unfold cutV
  rw [r.length]
  exact (r.drop _).take _
/-- xs[lo:hi] -/
def cutL (xs : List α) (lo hi : Option Int) : List α := (xs.drop (HT.sIx xs.length 0 lo)).take (HT.sIx xs.length xs.length hi - HT.sIx xs.length 0 lo)
theorem cut_map {f : α → β} (xs : List α) (lo hi : Option Int) : (cutL xs lo hi).map f = cutL (xs.map f) lo hi := by
  unfold cutL
  rw [List.map_take, List.map_drop, List.length_map]
/-- a part of a slice -/
def tP (R : Res) (Γ : List Slot) (m : M (Option Int)) : TO := fun σ H Q => ∃ O H0 ow st r st', Rel R O H0 ow Γ σ H ∧ okR R st H ∧ m st = some (r, st') ∧ ∀ H', Keep (Zr R) H H' → okR R st' H' → Q r H'
theorem PO.weak {e : Option Expr} {t t' : TO} (h : PO X e t) (w : ∀ σ H Q, t' σ H Q → t σ H Q) : PO X e t' := ⟨fun pins s σ H Q I q => h.run pins s σ H Q I (w σ H Q q)⟩
theorem p_none : PO X none (tP R Γ (pureM none)) := PO.weak po_none fun σ H Q ⟨O, H0, ow, st, r, st', rel, ok, e, q⟩ => by
  obtain ⟨rfl, rfl⟩ := pure_some e
  exact q H (Keep.refl H) ok
theorem p_some {m : M Int} (h : EJ X R Γ e eInt m) : PO X (some e) (tP R Γ (bindM m fun i => pureM (some i))) := PO.weak (po_some h) fun σ H Q ⟨O, H0, ow, st, r, st', rel, ok, e, q⟩ => by
  obtain ⟨x, s1, e1, e2⟩ := bind_some e
  obtain ⟨rfl, rfl⟩ := pure_some e2
  exact ⟨O, H0, ow, st, x, s1, rel, ok, e1, fun v H' k o r => by cases r; exact ⟨x, rfl, q H' k o⟩⟩
theorem f_slL {lo hi : Option Expr} {m : M (List α)} {ml mh : M (Option Int)} {p2 : Pos} (h : EJ X R Γ e (eL ea) m) (hl : PO X lo (tP R Γ ml)) (hh : PO X hi (tP R Γ mh)) :
    EF X R Γ (.Subscript e (.Slice lo hi none p2) pos) ea (bindM m fun xs => bindM ml fun l => bindM mh fun u => pureM (cutL xs l u)) := by
  refine PE.weak (pe_slice sl_list h hl hh) fun σ H Q ⟨O, H0, ow, st, z, st', rel, ok, e, q⟩ => ?_
  obtain ⟨xs, s1, e1, e2⟩ := bind_some e
  obtain ⟨l, s2, e3, e4⟩ := bind_some e2
  obtain ⟨u, s3, e5, e6⟩ := bind_some e4
  obtain ⟨rfl, rfl⟩ := pure_some e6
  refine ⟨O, H0, ow, st, xs, s1, rel, ok, e1, fun v H1 k1 o1 r1 => ?_⟩
  have rel1 := rel.grow k1 (okZ o1)
  refine ⟨O, H0, ow, s1, l, s2, rel1, o1, e3, fun H2 k2 o2 => ?_⟩
  have rel2 := rel1.grow k2 (okZ o2)
  refine ⟨O, H0, ow, s2, u, s3, rel2, o2, e5, fun H3 k3 o3 => ?_⟩
  have kA : Keep (avo O Γ ow) H1 H3 := (rel1.keepA k2).trans (rel2.keepA k3)
  have r3 := r1.keep kA
  cases r3 with
  | lst na ha hr =>
    refine ⟨_, _, rfl, SqL.of ha, fun p n => q p _ _ (noneK ((k1.trans k2).trans k3) o3 n) (((k1.trans k2).trans k3).trans (Keep.of_same (same_new n))) (o3.same (same_new n)) upd_same ?_⟩
    rw [cut_map]
    exact (cut_rp hr l u).at n (Keep.of_same (same_new n))
theorem e_slT {lo hi : Option Expr} {m : M (List α)} {ml mh : M (Option Int)} {p2 : Pos} (h : EJ X R Γ e (eT ea) m) (hl : PO X lo (tP R Γ ml)) (hh : PO X hi (tP R Γ mh)) :
    EJ X R Γ (.Subscript e (.Slice lo hi none p2) pos) (eT ea) (bindM m fun xs => bindM ml fun l => bindM mh fun u => pureM (cutL xs l u)) := by
  refine PE.weak (pe_slice sl_tupA h hl hh) fun σ H Q ⟨O, H0, ow, st, z, st', rel, ok, e, q⟩ => ?_
  obtain ⟨xs, s1, e1, e2⟩ := bind_some e
  obtain ⟨l, s2, e3, e4⟩ := bind_some e2
  obtain ⟨u, s3, e5, e6⟩ := bind_some e4
  obtain ⟨rfl, rfl⟩ := pure_some e6
  refine ⟨O, H0, ow, st, xs, s1, rel, ok, e1, fun v H1 k1 o1 r1 => ?_⟩
  have rel1 := rel.grow k1 (okZ o1)
  refine ⟨O, H0, ow, s1, l, s2, rel1, o1, e3, fun H2 k2 o2 => ?_⟩
  have rel2 := rel1.grow k2 (okZ o2)
  refine ⟨O, H0, ow, s2, u, s3, rel2, o2, e5, fun H3 k3 o3 => ?_⟩
  have kA : Keep (avo O Γ ow) H1 H3 := (rel1.keepA k2).trans (rel2.keepA k3)
  have r3 := r1.keep kA
  cases r3 with
  | @tup p0 vs _ na ha hr =>
    have hlen := hr.length
    rw [List.length_map] at hlen
    refine ⟨_, _, rfl, SqT.of ha, fun w => q _ _ ((k1.trans k2).trans k3) o3 (.tup na ha ?_), fun _ p n => q _ _ (((k1.trans k2).trans k3).trans (Keep.of_same (same_new n))) (o3.same (same_new n)) (.tup ((rel2.grow k3 (okZ o3)).ad.fresh n) upd_same ?_)⟩
    · have : cutL xs l u = xs := by
        rw [hlen] at w
        unfold cutL
        rw [w.1, w.2, List.drop_zero, Nat.sub_zero, List.take_length]
      rw [this]
      exact hr
    · rw [cut_map]
      exact (cut_rp hr l u).keep (Keep.of_same (same_new n))

/-! ### sorted -/
theorem each_rp {pins : List (Addr × Obj)} {σ : L2.St} {H : Hp} {s : Shared} {A : Av} (I : Inv X pins σ H s) : ∀ {bs : List α} {vs : List V} {us : List Value}, RpAll A H vs (bs.map ea) → Vals vs us → PySem.W.EachIs (fun v b => ∃ x, RelV x v ∧ Rp A H x (ea b)) us bs
  | [], _, _, r, q => by cases r; cases q; exact .nil
  | b :: bs, _, _, r, q => by
    cases r with
    | cons r1 r2 => cases q with | cons q1 q2 => exact .cons ⟨_, q1, r1⟩ (each_rp I r2 q2)
theorem each_reads {pins : List (Addr × Obj)} {σ : L2.St} {H : Hp} {s : Shared} {A : Av} (I : Inv X pins σ H s) : ∀ {bs : List α} {us : List Value}, PySem.W.EachIs (fun v b => ∃ x, RelV x v ∧ Rp A H x (ea b)) us bs → PySem.W.EachIs (fun v b => ∃ as, Reads s.heap v (ea b) as) us bs
  | _, _, .nil => .nil
  | _, _, .cons ⟨x, q1, r1⟩ t => .cons (let ⟨as, h, _⟩ := Rp.reads I _ _ _ r1 q1; ⟨as, h⟩) (each_reads I t)
theorem rp_each {H : Hp} {A : Av} : ∀ {bs : List α} {us : List Value}, PySem.W.EachIs (fun v b => ∃ x, RelV x v ∧ Rp A H x (ea b)) us bs → ∃ vs, Vals vs us ∧ RpAll A H vs (bs.map ea)
  | _, _, .nil => ⟨[], .nil, .nil⟩
  | _, _, .cons ⟨x, q1, r1⟩ t => let ⟨vs, h1, h2⟩ := rp_each t; ⟨x :: vs, .cons q1 h1, .cons r1 h2⟩
/-- which lists are sorted here: their data alike, tuples with an item at least (or none of them a tuple) -/
structure Srt (ok : α → Bool) (e : α → PyData) : Prop where
  alike : ∀ x y, PySem.W.alike (e x) (e y) = true
  kind : (∀ x, ok x = true → ∃ d r, e x = .tuple (d :: r)) ∨ ∀ x, e x ≠ .none ∧ ∀ ds, e x ≠ .tuple ds
  depth : ∀ x, (e x).depth ≤ 60
def srt (e : α → PyData) (xs : List α) : List α := xs.mergeSort (PySem.W.dataLe false e)
def srtO (ok : α → Bool) (e : α → PyData) (xs : List α) : Option (List α) := if xs.all ok = true then some (srt e xs) else none
def rSortD (ok : α → Bool) (ea : α → PyData) : List V → Hp → VK → Prop := fun xs H Q => ∃ A p vs bs, xs = [.ref p] ∧ H p = some (.lst vs) ∧ RpAll A H vs (bs.map ea) ∧ bs.all ok = true ∧
  ∀ q ws, H q = none → RpAll A H ws ((srt ea bs).map ea) → Q (.ref q) (upd H q (.lst ws))
theorem call_sortD {ok : α → Bool} (hs : Srt ok ea) (hu : X.A.units + 64 < cLine) : CallR X (.builtin "sorted") (rSortD ok ea) := fun pins s σ H xs us Q I r h => by
  obtain ⟨A, p, vs, bs, rfl, hp, hr, hok, q⟩ := h
  obtain ⟨u, rfl, ru⟩ := vals1 r
  cases ru
  obtain ⟨its, rv, pl, hz⟩ := I.list (SqL.of hp)
  have each := each_rp I hr rv
  refine PySem.W.sorted_data (enc := ea) (R := fun v b => ∃ x, RelV x v ∧ Rp A H x (ea b)) pl.isList each (each_reads I each) (PySem.W.AllAlike.of hs.alike) ?_ ?_ (fun b _ => by have := hs.depth b; omega) fun out hl eo => ?_
  · rcases hs.kind with h | h
    · refine .inl fun d hd => ?_
      obtain ⟨b, hb, rfl⟩ := List.mem_map.mp hd
      exact h b (List.all_eq_true.mp hok b hb)
    · exact PySem.W.Sortable.others h
  · have := hr.length; rw [List.length_map] at this; omega
  · obtain ⟨ws, h1, h2⟩ := rp_each eo
    obtain ⟨c, hc⟩ := sortedAll_at s.heap its out.toArray
    have fr : H (s.heap.objs.size + 1) = none := I.hok.fresh (Nat.le_succ _)
    refine ⟨.ref _, _, I.laid (o := .lst ws) (t' := s.toks) (h' := sortedAll s.heap its out.toArray) (fun b o e => sortedAll_old e) (Nat.le_succ _) ⟨?_, out, c, h1, hc⟩, rfl, q _ ws fr h2⟩
    have e1 := h1.length
    have e2 := hr.length
    rw [List.length_map] at e2
    omega
theorem v_sort {ok : α → Bool} : VNF (rSortD ok ea) (fun x : List α × Unit => [eL ea x.1]) ea (fun x => srtO ok ea x.1) := fun A H x vs Q z ad r e q => by
  obtain ⟨h, rfl⟩ := oif e
  cases r with
  | cons r1 r2 =>
    cases r2
    cases r1 with
    | lst na ha hr => exact ⟨A, _, _, _, rfl, ha, hr, h, fun p ws n r => q p ws _ n (same_new n) upd_same (r.at n (Keep.of_same (same_new n)))⟩
theorem alikeAll_of (h : ∀ x y, PySem.W.alike (ea x) (ea y) = true) : ∀ xs ys : List α, PySem.W.alikeAll (xs.map ea) (ys.map ea) = true
  | [], _ => by simp [PySem.W.alikeAll]
  | _ :: _, [] => by simp [PySem.W.alikeAll]
  | x :: xs, y :: ys => by simp [PySem.W.alikeAll, h x y, alikeAll_of h xs ys]
theorem depthAll_of {n : Nat} (h : ∀ x, (ea x).depth ≤ n) : ∀ xs : List α, PyData.depthAll (xs.map ea) ≤ n
  | [] => Nat.zero_le _
  | x :: xs => by
    have h1 := h x
    have h2 := depthAll_of h xs
    simp only [List.map_cons, PyData.depthAll]
    omega
/-- rows of ints -/
theorem Srt.rows : Srt (fun r : List Int => !r.isEmpty) (eT eInt) := ⟨fun x y => by
  simp only [eT, PySem.W.alike]
  exact alikeAll_of (fun x y => by simp [eInt, PySem.W.alike]) x y, .inl fun x h => by
    cases x with
    | nil => cases h
    | cons d r => exact ⟨_, _, rfl⟩, fun x => by
      have := depthAll_of (ea := eInt) (n := 0) (fun x => by simp [eInt, PyData.depth]) x
      simp only [eT, PyData.depth]; omega⟩
theorem Srt.ints : Srt (fun _ : Int => true) eInt := ⟨fun x y => by simp [eInt, PySem.W.alike], .inr fun x => ⟨by simp [eInt], by simp [eInt]⟩, fun x => by simp [eInt, PyData.depth]⟩

/-! ### all, any, sum, int, abs, max, min -/
theorem bools_rp {A : Av} {H : Hp} : ∀ {bs : List Bool} {vs : List V}, RpAll A H vs (bs.map eBool) → vs = bs.map V.bl
  | [], _, r => by cases r; rfl
  | b :: bs, _, r => by cases r with | cons r1 r2 => cases r1; rw [bools_rp r2]; rfl
theorem ints_rp {A : Av} {H : Hp} : ∀ {bs : List Int} {vs : List V}, RpAll A H vs (bs.map eInt) → vs = bs.map V.int
  | [], _, r => by cases r; rfl
  | b :: bs, _, r => by cases r with | cons r1 r2 => cases r1; rw [ints_rp r2]; rfl
theorem v_all {K : PySem.W.Frag} : VN (rAll K) (fun x : List Bool × Unit => [eL eBool x.1]) eBool (fun x => some (x.1.all id)) := fun A H x vs Q z ad r e q => by
  cases e
  cases r with
  | cons r1 r2 =>
    cases r2
    cases r1 with
    | lst na ha hr =>
      have := bools_rp hr
      subst this
      exact ⟨_, _, rfl, SqL.of ha, q _ H (Same.refl H) (.bl _)⟩
theorem v_any {K : PySem.W.Frag} : VN (rAny K) (fun x : List Bool × Unit => [eL eBool x.1]) eBool (fun x => some (x.1.any id)) := fun A H x vs Q z ad r e q => by
  cases e
  cases r with
  | cons r1 r2 =>
    cases r2
    cases r1 with
    | lst na ha hr =>
      have := bools_rp hr
      subst this
      exact ⟨_, _, rfl, SqL.of ha, q _ H (Same.refl H) (.bl _)⟩
theorem v_sumL {K : PySem.W.Frag} : VN (rSum K) (fun x : List Int × Unit => [eL eInt x.1]) eInt (fun x => some x.1.sum) := fun A H x vs Q z ad r e q => by
  cases e
  cases r with
  | cons r1 r2 =>
    cases r2
    cases r1 with
    | lst na ha hr =>
      have := ints_rp hr
      subst this
      exact ⟨_, _, rfl, SqL.of ha, q _ H (Same.refl H) (.int _)⟩
def rInt1 : List V → Hp → VK → Prop := fun xs H Q => (∃ i, xs = [.int i] ∧ Q (.int i) H) ∨ ∃ k, xs = [.bl k] ∧ Q (.int (if k then 1 else 0)) H
theorem v_intI : VN rInt1 (fun x : Int × Unit => [eInt x.1]) eInt (fun x => some x.1) := fun A H x vs Q z ad r e q => by
  cases e
  cases r with | cons r1 r2 => cases r2; cases r1; exact .inl ⟨_, rfl, q _ H (Same.refl H) (.int _)⟩
theorem v_intB : VN rInt1 (fun x : Bool × Unit => [eBool x.1]) eInt (fun x => some (if x.1 then 1 else 0)) := fun A H x vs Q z ad r e q => by
  cases e
  cases r with | cons r1 r2 => cases r2; cases r1; exact .inr ⟨_, rfl, q _ H (Same.refl H) (.int _)⟩
def rAbs1 : List V → Hp → VK → Prop := fun xs H Q => ∃ i, xs = [.int i] ∧ Q (.int (if i < 0 then -i else i)) H
theorem v_abs : VN rAbs1 (fun x : Int × Unit => [eInt x.1]) eInt (fun x => some (if x.1 < 0 then -x.1 else x.1)) := fun A H x vs Q z ad r e q => by
  cases e
  cases r with | cons r1 r2 => cases r2; cases r1; exact ⟨_, rfl, q _ H (Same.refl H) (.int _)⟩
def rMax2 : List V → Hp → VK → Prop := fun xs H Q => ∃ i j, xs = [.int i, .int j] ∧ Q (.int (if j > i then j else i)) H
def rMin2 : List V → Hp → VK → Prop := fun xs H Q => ∃ i j, xs = [.int i, .int j] ∧ Q (.int (if j < i then j else i)) H
theorem v_max2 : VN rMax2 (fun x : Int × Int × Unit => [eInt x.1, eInt x.2.1]) eInt (fun x => some (max x.1 x.2.1)) := fun A H x vs Q z ad r e q => by
  cases e
  cases r with
  | cons r1 r2 =>
    cases r2 with
    | cons r2 r3 =>
      cases r3; cases r1; cases r2
      refine ⟨_, _, rfl, ?_⟩
      rw [show (if x.2.1 > x.1 then x.2.1 else x.1) = max x.1 x.2.1 by rw [Int.max_def]; split <;> split <;> omega]
      exact q _ H (Same.refl H) (.int _)
theorem v_min2 : VN rMin2 (fun x : Int × Int × Unit => [eInt x.1, eInt x.2.1]) eInt (fun x => some (min x.1 x.2.1)) := fun A H x vs Q z ad r e q => by
  cases e
  cases r with
  | cons r1 r2 =>
    cases r2 with
    | cons r2 r3 =>
      cases r3; cases r1; cases r2
      refine ⟨_, _, rfl, ?_⟩
      rw [show (if x.2.1 < x.1 then x.2.1 else x.1) = min x.1 x.2.1 by rw [Int.min_def]; split <;> split <;> omega]
      exact q _ H (Same.refl H) (.int _)

/-! ### is None, is True -/
/-- an encoding that is never None -/
def NN (e : α → PyData) : Prop := ∀ x, e x ≠ .none
theorem NN.int : NN eInt := fun _ => by simp [eInt]
theorem NN.tup : NN (eT ea) := fun _ => by simp [eT]
theorem NN.lst : NN (eL ea) := fun _ => by simp [eL]
theorem NN.pr {f : α → List PyData} : NN (eP f) := fun _ => by simp [eP]
theorem rp_non {A : Av} {H : Hp} {v : V} {d : PyData} (r : Rp A H v d) : v = .non ↔ d = .none := by cases r <;> simp
theorem v_isN (h : NN ea) : VOp (fun x y H Q => y = .non ∧ Q (.bl (decide (x = .non))) H) (eO ea) eNon eBool (fun x _ => some x.isNone) := fun A H x y vx vy Q z ad r1 r2 e q => by
  cases e
  cases r2
  refine ⟨rfl, ?_⟩
  have : decide (vx = .non) = x.isNone := by
    have := rp_non r1
    cases x with
    | none => simp [this, eO]
    | some a => simp [this, eO, h a]
  rw [this]
  exact q _ H (Same.refl H) (.bl _)
theorem v_notN (h : NN ea) : VOp (fun x y H Q => y = .non ∧ Q (.bl (!decide (x = .non))) H) (eO ea) eNon eBool (fun x _ => some x.isSome) := fun A H x y vx vy Q z ad r1 r2 e q => by
  cases e
  cases r2
  refine ⟨rfl, ?_⟩
  have : (!decide (vx = .non)) = x.isSome := by
    have := rp_non r1
    cases x with
    | none => simp [this, eO]
    | some a => simp [this, eO, h a]
  rw [this]
  exact q _ H (Same.refl H) (.bl _)
end
end Pz

namespace Pz
open PySem PySem.Spec PyProof.Rows L2

section
variable {α β γ δ κ ρ ι : Type} {ea : α → PyData} {eb : β → PyData} {ec : γ → PyData} {er : ρ → PyData} {ei : ι → PyData} {X : Cx} {R : Res} {Γ Γ' : List Slot} {e a b c : Expr} {st : Stmt} {rest A B body : List Stmt} {pos : Pos} {out : κ → OutD}
/-! ### short names -/
theorem e_add {ma mb : M Int} (ha : EJ X R Γ a eInt ma) (hb : EJ X R Γ b eInt mb) : EJ X R Γ (.BinOp a .Add b pos) eInt (bindM ma fun x => bindM mb fun y => pureM (x + y)) := e_bin op_add v_int2 ha hb
theorem e_sub {ma mb : M Int} (ha : EJ X R Γ a eInt ma) (hb : EJ X R Γ b eInt mb) : EJ X R Γ (.BinOp a .Sub b pos) eInt (bindM ma fun x => bindM mb fun y => pureM (x - y)) := e_bin op_sub v_int2 ha hb
theorem e_mul {ma mb : M Int} (ha : EJ X R Γ a eInt ma) (hb : EJ X R Γ b eInt mb) : EJ X R Γ (.BinOp a .Mult b pos) eInt (bindM ma fun x => bindM mb fun y => optM (mulO x y)) := e_bin op_mul v_mul ha hb
theorem e_div {ma mb : M Int} (ha : EJ X R Γ a eInt ma) (hb : EJ X R Γ b eInt mb) : EJ X R Γ (.BinOp a .FloorDiv b pos) eInt (bindM ma fun x => bindM mb fun y => optM (divO x y)) := e_bin op_fdivN v_div ha hb
theorem e_mod {ma mb : M Int} (ha : EJ X R Γ a eInt ma) (hb : EJ X R Γ b eInt mb) : EJ X R Γ (.BinOp a .Mod b pos) eInt (bindM ma fun x => bindM mb fun y => optM (modO x y)) := e_bin op_modN v_mod ha hb
theorem e_pow {ma mb : M Int} (ha : EJ X R Γ a eInt ma) (hb : EJ X R Γ b eInt mb) : EJ X R Γ (.BinOp a .Pow b pos) eInt (bindM ma fun x => bindM mb fun y => optM (powO x y)) := e_bin op_pow v_pow ha hb
theorem e_shl {ma mb : M Int} (ha : EJ X R Γ a eInt ma) (hb : EJ X R Γ b eInt mb) : EJ X R Γ (.BinOp a .LShift b pos) eInt (bindM ma fun x => bindM mb fun y => optM (shlO x y)) := e_bin op_shl v_shl ha hb
theorem e_neg {ma : M Int} (ha : EJ X R Γ a eInt ma) : EJ X R Γ (.UnaryOp .USub a pos) eInt (bindM ma fun x => pureM (-x)) := e_un un_neg v_neg ha
theorem e_lt {ma mb : M Int} (ha : EJ X R Γ a eInt ma) (hb : EJ X R Γ b eInt mb) : EJ X R Γ (.Compare a [.Lt] [b] pos) eBool (bindM ma fun x => bindM mb fun y => pureM (decide (x < y))) := e_cmp op_lt v_cmp2 ha hb
theorem e_le {ma mb : M Int} (ha : EJ X R Γ a eInt ma) (hb : EJ X R Γ b eInt mb) : EJ X R Γ (.Compare a [.LtE] [b] pos) eBool (bindM ma fun x => bindM mb fun y => pureM (decide (x ≤ y))) := e_cmp op_le v_cmp2 ha hb
theorem e_gt {ma mb : M Int} (ha : EJ X R Γ a eInt ma) (hb : EJ X R Γ b eInt mb) : EJ X R Γ (.Compare a [.Gt] [b] pos) eBool (bindM ma fun x => bindM mb fun y => pureM (decide (y < x))) := e_cmp op_gt v_cmp2 ha hb
theorem e_ge {ma mb : M Int} (ha : EJ X R Γ a eInt ma) (hb : EJ X R Γ b eInt mb) : EJ X R Γ (.Compare a [.GtE] [b] pos) eBool (bindM ma fun x => bindM mb fun y => pureM (decide (y ≤ x))) := e_cmp op_ge v_cmp2 ha hb
theorem t_lt {ma mb : M Int} (ha : EJ X R Γ a eInt ma) (hb : EJ X R Γ b eInt mb) : TJ X R Γ (.Compare a [.Lt] [b] pos) (bindM ma fun x => bindM mb fun y => pureM (decide (x < y))) := t_cmp op_lt v_cmp2 ha hb
theorem t_le {ma mb : M Int} (ha : EJ X R Γ a eInt ma) (hb : EJ X R Γ b eInt mb) : TJ X R Γ (.Compare a [.LtE] [b] pos) (bindM ma fun x => bindM mb fun y => pureM (decide (x ≤ y))) := t_cmp op_le v_cmp2 ha hb
theorem t_gt {ma mb : M Int} (ha : EJ X R Γ a eInt ma) (hb : EJ X R Γ b eInt mb) : TJ X R Γ (.Compare a [.Gt] [b] pos) (bindM ma fun x => bindM mb fun y => pureM (decide (y < x))) := t_cmp op_gt v_cmp2 ha hb
theorem t_ge {ma mb : M Int} (ha : EJ X R Γ a eInt ma) (hb : EJ X R Γ b eInt mb) : TJ X R Γ (.Compare a [.GtE] [b] pos) (bindM ma fun x => bindM mb fun y => pureM (decide (y ≤ x))) := t_cmp op_ge v_cmp2 ha hb
theorem e_eqI {ma mb : M Int} (ha : EJ X R Γ a eInt ma) (hb : EJ X R Γ b eInt mb) : EJ X R Γ (.Compare a [.Eq] [b] pos) eBool (bindM ma fun x => bindM mb fun y => pureM (decide (x = y))) := e_cmp op_eq v_eqI ha hb
theorem e_neI {ma mb : M Int} (ha : EJ X R Γ a eInt ma) (hb : EJ X R Γ b eInt mb) : EJ X R Γ (.Compare a [.NotEq] [b] pos) eBool (bindM ma fun x => bindM mb fun y => pureM (!decide (x = y))) := e_cmp op_ne v_neI ha hb
theorem t_eqI {ma mb : M Int} (ha : EJ X R Γ a eInt ma) (hb : EJ X R Γ b eInt mb) : TJ X R Γ (.Compare a [.Eq] [b] pos) (bindM ma fun x => bindM mb fun y => pureM (decide (x = y))) := t_cmp op_eq v_eqI ha hb
theorem t_neI {ma mb : M Int} (ha : EJ X R Γ a eInt ma) (hb : EJ X R Γ b eInt mb) : TJ X R Γ (.Compare a [.NotEq] [b] pos) (bindM ma fun x => bindM mb fun y => pureM (!decide (x = y))) := t_cmp op_ne v_neI ha hb
theorem e_eqT {ma mb : M Str} (ha : EJ X R Γ a eStr ma) (hb : EJ X R Γ b eStr mb) : EJ X R Γ (.Compare a [.Eq] [b] pos) eBool (bindM ma fun x => bindM mb fun y => pureM (decide (x = y))) := e_cmp op_eq v_eqT ha hb
theorem e_neT {ma mb : M Str} (ha : EJ X R Γ a eStr ma) (hb : EJ X R Γ b eStr mb) : EJ X R Γ (.Compare a [.NotEq] [b] pos) eBool (bindM ma fun x => bindM mb fun y => pureM (!decide (x = y))) := e_cmp op_ne v_neT ha hb
theorem t_eqT {ma mb : M Str} (ha : EJ X R Γ a eStr ma) (hb : EJ X R Γ b eStr mb) : TJ X R Γ (.Compare a [.Eq] [b] pos) (bindM ma fun x => bindM mb fun y => pureM (decide (x = y))) := t_cmp op_eq v_eqT ha hb
theorem t_neT {ma mb : M Str} (ha : EJ X R Γ a eStr ma) (hb : EJ X R Γ b eStr mb) : TJ X R Γ (.Compare a [.NotEq] [b] pos) (bindM ma fun x => bindM mb fun y => pureM (!decide (x = y))) := t_cmp op_ne v_neT ha hb
theorem e_eqP {n k : Nat} [DecidableEq α] {ma mb : M α} (hr : Room k X.A) (h : Dc n ea) (ha : EJ X R Γ a ea ma) (hb : EJ X R Γ b ea mb) (hn : n ≤ 60 := by decide) : EJ X R Γ (.Compare a [.Eq] [b] pos) eBool (bindM ma fun x => bindM mb fun y => pureM (decide (x = y))) := e_cmp (op_eqP hr.units) (v_eqP h hn) ha hb
theorem e_neP {n k : Nat} [DecidableEq α] {ma mb : M α} (hr : Room k X.A) (h : Dc n ea) (ha : EJ X R Γ a ea ma) (hb : EJ X R Γ b ea mb) (hn : n ≤ 60 := by decide) : EJ X R Γ (.Compare a [.NotEq] [b] pos) eBool (bindM ma fun x => bindM mb fun y => pureM (!decide (x = y))) := e_cmp (op_neP hr.units) (v_neP h hn) ha hb
theorem t_eqP {n k : Nat} [DecidableEq α] {ma mb : M α} (hr : Room k X.A) (h : Dc n ea) (ha : EJ X R Γ a ea ma) (hb : EJ X R Γ b ea mb) (hn : n ≤ 60 := by decide) : TJ X R Γ (.Compare a [.Eq] [b] pos) (bindM ma fun x => bindM mb fun y => pureM (decide (x = y))) := t_cmp (op_eqP hr.units) (v_eqP h hn) ha hb
theorem t_neP {n k : Nat} [DecidableEq α] {ma mb : M α} (hr : Room k X.A) (h : Dc n ea) (ha : EJ X R Γ a ea ma) (hb : EJ X R Γ b ea mb) (hn : n ≤ 60 := by decide) : TJ X R Γ (.Compare a [.NotEq] [b] pos) (bindM ma fun x => bindM mb fun y => pureM (!decide (x = y))) := t_cmp (op_neP hr.units) (v_neP h hn) ha hb
theorem e_isN {ma : M (Option α)} {j p} (h : NN ea) (ha : EJ X R Γ a (eO ea) ma) : EJ X R Γ (.Compare a [.Is] [.Constant .none j p] pos) eBool (bindM ma fun x => pureM x.isNone) := e_cmp op_isN (v_isN h) ha e_non
theorem e_notN {ma : M (Option α)} {j p} (h : NN ea) (ha : EJ X R Γ a (eO ea) ma) : EJ X R Γ (.Compare a [.IsNot] [.Constant .none j p] pos) eBool (bindM ma fun x => pureM x.isSome) := e_cmp op_notN (v_notN h) ha e_non
theorem t_isN {ma : M (Option α)} {j p} (h : NN ea) (ha : EJ X R Γ a (eO ea) ma) : TJ X R Γ (.Compare a [.Is] [.Constant .none j p] pos) (bindM ma fun x => pureM x.isNone) := t_cmp op_isN (v_isN h) ha e_non
theorem t_notN {ma : M (Option α)} {j p} (h : NN ea) (ha : EJ X R Γ a (eO ea) ma) : TJ X R Γ (.Compare a [.IsNot] [.Constant .none j p] pos) (bindM ma fun x => pureM x.isSome) := t_cmp op_notN (v_notN h) ha e_non
theorem v_isB : VOp rIsB eBool eBool eBool (fun x y => some (decide (x = y))) := fun A H x y vx vy Q z ad r1 r2 e q => by
  cases r1; cases r2; cases e
  exact ⟨_, _, rfl, rfl, q _ H (Same.refl H) (.bl _)⟩
theorem v_notB : VOp rNotB eBool eBool eBool (fun x y => some (!decide (x = y))) := fun A H x y vx vy Q z ad r1 r2 e q => by
  cases r1; cases r2; cases e
  exact ⟨_, _, rfl, rfl, q _ H (Same.refl H) (.bl _)⟩
theorem e_isB {ma mb : M Bool} (ha : EJ X R Γ a eBool ma) (hb : EJ X R Γ b eBool mb) : EJ X R Γ (.Compare a [.Is] [b] pos) eBool (bindM ma fun x => bindM mb fun y => pureM (decide (x = y))) := e_cmp op_isBl v_isB ha hb
theorem e_notB {ma mb : M Bool} (ha : EJ X R Γ a eBool ma) (hb : EJ X R Γ b eBool mb) : EJ X R Γ (.Compare a [.IsNot] [b] pos) eBool (bindM ma fun x => bindM mb fun y => pureM (!decide (x = y))) := e_cmp op_notBl v_notB ha hb
theorem t_isB {ma mb : M Bool} (ha : EJ X R Γ a eBool ma) (hb : EJ X R Γ b eBool mb) : TJ X R Γ (.Compare a [.Is] [b] pos) (bindM ma fun x => bindM mb fun y => pureM (decide (x = y))) := t_cmp op_isBl v_isB ha hb
theorem t_notB {ma mb : M Bool} (ha : EJ X R Γ a eBool ma) (hb : EJ X R Γ b eBool mb) : TJ X R Γ (.Compare a [.IsNot] [b] pos) (bindM ma fun x => bindM mb fun y => pureM (!decide (x = y))) := t_cmp op_notBl v_notB ha hb
theorem e_ixL {ma : M (List α)} {mb : M Int} (ha : EJ X R Γ a (eL ea) ma) (hb : EJ X R Γ b eInt mb) (hs : PlainIx b := by intro _ _; rfl) : EJ X R Γ (.Subscript a b pos) ea (bindM ma fun x => bindM mb fun y => optM (atI x y)) := e_ix ix_list v_ixL ha hb hs
theorem e_ixT {ma : M (List α)} {mb : M Int} (ha : EJ X R Γ a (eT ea) ma) (hb : EJ X R Γ b eInt mb) (hs : PlainIx b := by intro _ _; rfl) : EJ X R Γ (.Subscript a b pos) ea (bindM ma fun x => bindM mb fun y => optM (atI x y)) := e_ix ix_tup v_ixT ha hb hs
/-- t[j], j written, t a tuple of a written length -/
theorem e_ixP {ma : M α} {f : α → List PyData} {k : Int} {j0 : Nat} {p : Pos} (g : α → γ) (j : Nat) (hj : ∀ x, (f x)[j]? = some (ec (g x)) := by intro _; rfl) (hk : k = (j : Int) := by rfl) (ha : EJ X R Γ a (eP f) ma) : EJ X R Γ (.Subscript a (.Constant (.int k) j0 p) pos) ec (bindM ma fun x => pureM (g x)) := by
  have h := e_ix (X := X) (R := R) (Γ := Γ) (pos := pos) ix_tup (v_ixP (K := X.K) (f := f) (ec := ec) g j hj) ha (e_int (i := k) (j := j0) (pos := p)) (by intro _ _; rfl)
  subst hk
  simpa using h
theorem e_len {x : Str} {p : Pos} {ma : M (List α)} (hm : X.mg x = none) (hv : bootBuiltins x = some (.builtin "len")) (ha : EJ X R Γ a (eL ea) ma) (hg : Gl X x := by rfl) (hn : x ≠ "__name__" := by decide) (hdb : (x == ("__debug__" : Str)) = false := by decide)
    (he : starEach [a] X.env = (false, eval a X.env) :: starEach [] X.env := by rfl) : EJ X R Γ (.Call (.Name x p) [a] [] pos) eInt (bindM ma fun xs => pureM (xs.length : Int)) := by
  have h := e_many (es := [a]) (fun y : List α × Unit => [eL ea y.1]) (pe_callB (pos := pos) (p := p) call_len_seq hg hm hv (a_cons ha a_nil he) hn hdb he rfl) v_lenL
  simpa using h
theorem e_lenT {x : Str} {p : Pos} {ma : M (List α)} (hm : X.mg x = none) (hv : bootBuiltins x = some (.builtin "len")) (ha : EJ X R Γ a (eT ea) ma) (hg : Gl X x := by rfl) (hn : x ≠ "__name__" := by decide) (hdb : (x == ("__debug__" : Str)) = false := by decide)
    (he : starEach [a] X.env = (false, eval a X.env) :: starEach [] X.env := by rfl) : EJ X R Γ (.Call (.Name x p) [a] [] pos) eInt (bindM ma fun xs => pureM (xs.length : Int)) := by
  have h := e_many (es := [a]) (fun y : List α × Unit => [eT ea y.1]) (pe_callB (pos := pos) (p := p) call_len_seq hg hm hv (a_cons ha a_nil he) hn hdb he rfl) v_lenT
  simpa using h
/-- a built-in of one argument -/
theorem e_b1 {x : Str} {p : Pos} {id : String} {r : List V → Hp → VK → Prop} {ma : M α} {f : α → Option γ} (hc : CallR X (.builtin id) r) (hvn : VN r (fun y : α × Unit => [ea y.1]) ec (fun y => f y.1)) (hm : X.mg x = none) (hv : bootBuiltins x = some (.builtin id)) (ha : EJ X R Γ a ea ma) (hg : Gl X x := by rfl) (hn : x ≠ "__name__" := by decide) (hdb : (x == ("__debug__" : Str)) = false := by decide)
    (he : starEach [a] X.env = (false, eval a X.env) :: starEach [] X.env := by rfl) : EJ X R Γ (.Call (.Name x p) [a] [] pos) ec (bindM ma fun y => optM (f y)) := by
  have h := e_many (es := [a]) (fun y : α × Unit => [ea y.1]) (pe_callB (pos := pos) (p := p) hc hg hm hv (a_cons ha a_nil he) hn hdb he rfl) hvn
  simpa using h
theorem f_b1 {x : Str} {p : Pos} {id : String} {r : List V → Hp → VK → Prop} {ma : M α} {f : α → Option (List γ)} (hc : CallR X (.builtin id) r) (hvn : VNF r (fun y : α × Unit => [ea y.1]) ec (fun y => f y.1)) (hm : X.mg x = none) (hv : bootBuiltins x = some (.builtin id)) (ha : EJ X R Γ a ea ma) (hg : Gl X x := by rfl) (hn : x ≠ "__name__" := by decide) (hdb : (x == ("__debug__" : Str)) = false := by decide)
    (he : starEach [a] X.env = (false, eval a X.env) :: starEach [] X.env := by rfl) : EF X R Γ (.Call (.Name x p) [a] [] pos) ec (bindM ma fun y => optM (f y)) := by
  have h := f_many (es := [a]) (fun y : α × Unit => [ea y.1]) (pe_callB (pos := pos) (p := p) hc hg hm hv (a_cons ha a_nil he) hn hdb he rfl) hvn
  simpa using h
theorem e_t1 {x : Str} {p : Pos} {T : String} {r : List V → Hp → VK → Prop} {ma : M α} {f : α → Option γ} (hc : CallR X (.type T) r) (hvn : VN r (fun y : α × Unit => [ea y.1]) ec (fun y => f y.1)) (hm : X.mg x = none) (hv : bootBuiltins x = some (.type T)) (ha : EJ X R Γ a ea ma) (hg : Gl X x := by rfl) (hn : x ≠ "__name__" := by decide) (hdb : (x == ("__debug__" : Str)) = false := by decide)
    (he : starEach [a] X.env = (false, eval a X.env) :: starEach [] X.env := by rfl) : EJ X R Γ (.Call (.Name x p) [a] [] pos) ec (bindM ma fun y => optM (f y)) := by
  have h := e_many (es := [a]) (fun y : α × Unit => [ea y.1]) (pe_callTy (pos := pos) (p := p) hc hg hm hv (a_cons ha a_nil he) hn hdb he rfl) hvn
  simpa using h
theorem f_t1 {x : Str} {p : Pos} {T : String} {r : List V → Hp → VK → Prop} {ma : M α} {f : α → Option (List γ)} (hc : CallR X (.type T) r) (hvn : VNF r (fun y : α × Unit => [ea y.1]) ec (fun y => f y.1)) (hm : X.mg x = none) (hv : bootBuiltins x = some (.type T)) (ha : EJ X R Γ a ea ma) (hg : Gl X x := by rfl) (hn : x ≠ "__name__" := by decide) (hdb : (x == ("__debug__" : Str)) = false := by decide)
    (he : starEach [a] X.env = (false, eval a X.env) :: starEach [] X.env := by rfl) : EF X R Γ (.Call (.Name x p) [a] [] pos) ec (bindM ma fun y => optM (f y)) := by
  have h := f_many (es := [a]) (fun y : α × Unit => [ea y.1]) (pe_callTy (pos := pos) (p := p) hc hg hm hv (a_cons ha a_nil he) hn hdb he rfl) hvn
  simpa using h
theorem e_b2 {x : Str} {p : Pos} {id : String} {r : List V → Hp → VK → Prop} {ma : M α} {mb : M β} {f : α → β → Option γ} (hc : CallR X (.builtin id) r) (hvn : VN r (fun y : α × β × Unit => [ea y.1, eb y.2.1]) ec (fun y => f y.1 y.2.1)) (hm : X.mg x = none) (hv : bootBuiltins x = some (.builtin id)) (ha : EJ X R Γ a ea ma) (hb : EJ X R Γ b eb mb) (hg : Gl X x := by rfl) (hn : x ≠ "__name__" := by decide) (hdb : (x == ("__debug__" : Str)) = false := by decide)
    (he : starEach [a, b] X.env = (false, eval a X.env) :: starEach [b] X.env := by rfl) (he2 : starEach [b] X.env = (false, eval b X.env) :: starEach [] X.env := by rfl) : EJ X R Γ (.Call (.Name x p) [a, b] [] pos) ec (bindM ma fun y => bindM mb fun z => optM (f y z)) := by
  have h := e_many (es := [a, b]) (fun y : α × β × Unit => [ea y.1, eb y.2.1]) (pe_callB (pos := pos) (p := p) hc hg hm hv (a_cons ha (a_cons hb a_nil he2) he) hn hdb he (by rw [he2]; rfl)) hvn
  simpa using h
theorem e_repr {x : Str} {p : Pos} {k : Nat} {ma : M α} (hr : Room k X.A) (hG : X.A.guards = some []) (hm : X.mg x = none) (hv : bootBuiltins x = some (.builtin "repr")) (ha : EJ X R Γ a ea ma) (hg : Gl X x := by rfl) (hn : x ≠ "__name__" := by decide) (hdb : (x == ("__debug__" : Str)) = false := by decide)
    (he : starEach [a] X.env = (false, eval a X.env) :: starEach [] X.env := by rfl) : EJ X R Γ (.Call (.Name x p) [a] [] pos) eStr (bindM ma fun y => optM (reprO (ea y))) := e_b1 (call_reprD hr.units hG) v_repr hm hv ha hg hn hdb he
theorem f_catL {ma mb : M (List α)} (ha : EJ X R Γ a (eL ea) ma) (hb : EJ X R Γ b (eL ea) mb) : EF X R Γ (.BinOp a .Add b pos) ea (bindM ma fun x => bindM mb fun y => optM (catO x y)) := f_bin op_cat v_catL ha hb
theorem e_catT {ma mb : M (List α)} (ha : EJ X R Γ a (eT ea) ma) (hb : EJ X R Γ b (eT ea) mb) : EJ X R Γ (.BinOp a .Add b pos) (eT ea) (bindM ma fun x => bindM mb fun y => optM (catO x y)) := e_bin op_catA v_catT ha hb
theorem f_repL {ma : M (List α)} {mb : M Int} (ha : EJ X R Γ a (eL ea) ma) (hb : EJ X R Γ b eInt mb) : EF X R Γ (.BinOp a .Mult b pos) ea (bindM ma fun x => bindM mb fun y => optM (repO x y)) := f_bin op_rep v_repL ha hb
theorem e_repT {ma : M (List α)} {mb : M Int} (ha : EJ X R Γ a (eT ea) ma) (hb : EJ X R Γ b eInt mb) : EJ X R Γ (.BinOp a .Mult b pos) (eT ea) (bindM ma fun x => bindM mb fun y => optM (repTO x y)) := e_bin op_repT v_repT ha hb

/-! ### displays of one kind of items -/
abbrev LJ (X : Cx) (R : Res) (Γ : List Slot) (es : List Expr) (enc : α → PyData) (m : M (List α)) : Prop := AJ X R Γ es (fun xs => (xs.map enc).map .fz) m
theorem l_nil : LJ X R Γ [] ea (pureM []) := by
  refine PA.weak pa_nil fun σ H Q ⟨O, H0, ow, st, z, st', rel, ok, e, q⟩ => ?_
  obtain ⟨rfl, rfl⟩ := pure_some e
  exact q [] H (Keep.refl H) ok .nil
theorem l_cons {es : List Expr} {ma : M α} {mb : M (List α)} (ha : EJ X R Γ a ea ma) (hb : LJ X R Γ es ea mb) (hs : starEach (a :: es) X.env = (false, eval a X.env) :: starEach es X.env := by rfl) :
    LJ X R Γ (a :: es) ea (bindM ma fun x => bindM mb fun y => pureM (x :: y)) := by
  refine PA.weak (pa_cons ha hb hs) fun σ H Q ⟨O, H0, ow, st, z, st', rel, ok, e, q⟩ => ?_
  obtain ⟨x, s1, e1, e'⟩ := bind_some e
  obtain ⟨y, s2, e2, e3⟩ := bind_some e'
  obtain ⟨rfl, rfl⟩ := pure_some e3
  refine ⟨O, H0, ow, st, x, s1, rel, ok, e1, fun vx H1 k1 o1 r1 => ?_⟩
  refine ⟨O, H0, ow, s1, y, s2, rel.grow k1 (okZ o1), o1, e2, fun vs H2 k2 o2 r2 => ?_⟩
  exact q _ H2 (k1.trans k2) o2 (.cons (r1.keep ((rel.grow k1 (okZ o1)).keepA k2)) r2)
/-- how many: said by the reading -/
def smallM (m : M (List α)) : M (List α) := bindM m fun xs => if xs.length ≤ sizeLine then pureM xs else failM
theorem smallM_some {m : M (List α)} {s t : Src} {z : List α} (h : smallM m s = some (z, t)) : m s = some (z, t) ∧ z.length ≤ sizeLine := by
  obtain ⟨x, u, e1, e2⟩ := bind_some h
  obtain ⟨hl, rfl, rfl⟩ := if_some e2
  exact ⟨e1, hl⟩
theorem f_list {es : List Expr} {m : M (List α)} (h : LJ X R Γ es ea m) : EF X R Γ (.List es pos) ea (smallM m) := by
  refine PE.weak (pe_lst h) fun σ H Q ⟨O, H0, ow, st, z, st', rel, ok, e, q⟩ => ?_
  obtain ⟨e, hz⟩ := smallM_some e
  refine ⟨O, H0, ow, st, z, st', rel, ok, e, fun vs H1 k1 o1 r1 => ?_⟩
  have r2 : RpAll _ _ _ _ := RpSs.dat (R := R) r1
  refine ⟨by rw [r2.length, List.length_map]; exact hz, fun p n => q p vs _ (noneK k1 o1 n) (keepS k1 (same_new n)) (o1.same (same_new n)) upd_same (r2.at n (Keep.of_same (same_new n)))⟩
theorem e_tupl {es : List Expr} {k : Nat} {m : M (List α)} (h : LJ X R Γ es ea m) : EJ X R Γ (.Tuple es k pos) (eT ea) (smallM m) := by
  refine PE.weak (pe_tup h) fun σ H Q ⟨O, H0, ow, st, z, st', rel, ok, e, q⟩ => ?_
  obtain ⟨e, hz⟩ := smallM_some e
  refine ⟨O, H0, ow, st, z, st', rel, ok, e, fun vs H1 k1 o1 r1 => ?_⟩
  have r2 : RpAll _ _ _ _ := RpSs.dat (R := R) r1
  refine ⟨by rw [r2.length, List.length_map]; exact hz, fun p n => q _ _ (keepS k1 (same_new n)) (o1.same (same_new n)) (.tup ((rel.grow k1 (okZ o1)).ad.fresh n) upd_same (r2.keep (Keep.of_same (same_new n))))⟩
/-- *t ahead of more -/
theorem l_starT {es : List Expr} {p : Pos} {ma mb : M (List α)} (ha : EJ X R Γ a (eT ea) ma) (hb : LJ X R Γ es ea mb) (hs : starEach (.Starred a p :: es) X.env = (true, eval a X.env) :: starEach es X.env := by rfl) :
    LJ X R Γ (.Starred a p :: es) ea (bindM ma fun x => bindM mb fun y => pureM (x ++ y)) := by
  refine PA.weak (StX.pa_star ha hb hs) fun σ H Q ⟨O, H0, ow, st, z, st', rel, ok, e, q⟩ => ?_
  obtain ⟨x, s1, e1, e'⟩ := bind_some e
  obtain ⟨y, s2, e2, e3⟩ := bind_some e'
  obtain ⟨rfl, rfl⟩ := pure_some e3
  refine ⟨O, H0, ow, st, x, s1, rel, ok, e1, fun vx H1 k1 o1 r1 => ?_⟩
  cases r1 with
  | tup na ha hr =>
    refine ⟨_, _, rfl, .inl (SqT.of ha), O, H0, ow, s1, y, s2, rel.grow k1 (okZ o1), o1, e2, fun vs H2 k2 o2 r2 => q _ H2 (k1.trans k2) o2 ?_⟩
    have hr2 := hr.keep ((rel.grow k1 (okZ o1)).keepA k2)
    have all := hr2.append (RpSs.dat (R := R) r2)
    rw [← List.map_append] at all
    have back : ∀ {vs : List V} {ds : List PyData}, RpAll (avo O Γ ow) H2 vs ds → RpSs R (avo O Γ ow) H2 vs (ds.map .fz) := by
      intro vs ds
      induction ds generalizing vs with
      | nil => intro h; cases h; exact .nil
      | cons d ds ih => intro h; cases h with | cons h1 h2 => exact .cons h1 (ih h2)
    exact back all

/-! ### statements, short -/
def caseO {ρ β κ : Type} (o : Out ρ β) (f : β → M κ) (g : ρ → M κ) : M κ := match o with
  | .nx b => f b
  | .rt r => g r
theorem s_ret0 {m : M ρ} (he : EJ X R Γ e er m) : SJ X R Γ (.Return (some e) pos :: rest) (fun r => .rt (er r)) m := by
  have := s_ret (rest := rest) (pos := pos) (out := fun r => .rt (er r)) (f := id) he
  simpa using this
theorem s_retO {Γb : β → List Slot} {m : M ρ} (he : EJ X R Γ e er m) : SJ X R Γ (.Return (some e) pos :: rest) (outO er Γb) (bindM m fun r => pureM (Out.rt r)) := s_ret Out.rt he
theorem s_step1 {Γ1 : β → List Slot} {m1 : M (Out ρ β)} {k : β → M ρ} (h1 : QJ X R Γ st (outO er Γ1) m1) (h2 : ∀ b, SJ X R (Γ1 b) rest (fun r => .rt (er r)) (k b)) :
    SJ X R Γ (st :: rest) (fun r => .rt (er r)) (bindM m1 fun o => caseO o k pureM) :=
  s_eq (s_stepO (f := id) h1 h2) (congrArg (bindM m1) (funext fun o => by cases o <;> rfl))
theorem s_step2 {Γ1 : β → List Slot} {Γb : δ → List Slot} {m1 : M (Out ρ β)} {k : β → M (Out ρ δ)} (h1 : QJ X R Γ st (outO er Γ1) m1) (h2 : ∀ b, SJ X R (Γ1 b) rest (outO er Γb) (k b)) :
    SJ X R Γ (st :: rest) (outO er Γb) (bindM m1 fun o => caseO o k fun r => pureM (Out.rt r)) :=
  s_eq (s_stepO (f := Out.rt) h1 h2) (congrArg (bindM m1) (funext fun o => by cases o <;> rfl))
theorem s_ifret2 {Γb : β → List Slot} {mc : M Bool} {mA : M ρ} {mR : M (Out ρ β)} (hc : TJ X R Γ c mc) (hA : SJ X R Γ A (fun r => .rt (er r)) mA) (hR : SJ X R Γ rest (outO er Γb) mR) :
    SJ X R Γ (.If c A [] pos :: rest) (outO er Γb) (bindM mc fun k => if k then bindM mA (fun r => pureM (Out.rt r)) else mR) := s_ifret Out.rt hc hA (fun r => ⟨_, rfl⟩) (fun _ => rfl) hR
theorem s_nilN {Γb : β → List Slot} (b : β) (h : Low Γ (Γb b)) : SJ X R Γ [] (fun b => .nx (Γb b)) (pureM b) := s_nil rfl h
theorem s_nilO {Γb : β → List Slot} (b : β) (h : Low Γ (Γb b)) : SJ X R Γ [] (outO er Γb) (pureM (Out.nx b)) := s_nil rfl h

/-! ### targets, short -/
def st1 (i : Nat) (enc : ι → PyData) (Γ : List Slot) (y : ι) : List Slot := Γ.set i (.fz (enc y))
def st2 (i : Nat) (ea : α → PyData) (j : Nat) (eb : β → PyData) (Γ : List Slot) (y : α × β × Unit) : List Slot := (Γ.set i (.fz (ea y.1))).set j (.fz (eb y.2.1))
def st3 (i : Nat) (ea : α → PyData) (j : Nat) (eb : β → PyData) (k : Nat) (ec : γ → PyData) (Γ : List Slot) (y : α × β × γ × Unit) : List Slot := ((Γ.set i (.fz (ea y.1))).set j (.fz (eb y.2.1))).set k (.fz (ec y.2.2.1))
theorem g1 (i : Nat) {x : Str} (enc : ι → PyData) (hN : X.N.Nodup) (hi : X.N[i]? = some x := by rfl) (hx : Loc X.env.scope x := by first | exact Or.inl rfl | exact Or.inr rfl)
    (hf : X.fn x = true ∨ X.env.scope.names.lookup x = some .local := by first | exact .inl rfl | exact .inr rfl) : GJ X (.Name x pos) (st1 i enc) [i] enc := g_name i enc hN hi hx hf
theorem noow1 {i : Nat} {enc : ι → PyData} : ∀ Γ x (j : Nat) d, (st1 i enc Γ x)[j]? = some (.ow d) → Γ[j]? = some (.ow d) := fun _ _ _ _ e => set_noow _ _ e
theorem sm1 {i : Nat} {enc : ι → PyData} : ∀ Γ x (j : Nat), j ∉ [i] → (st1 i enc Γ x)[j]? = Γ[j]? := fun _ _ _ h => List.getElem?_set_ne (fun z => h (by simp [z]))
theorem noow2 {i j : Nat} : ∀ Γ x (l : Nat) d, (st2 i ea j eb Γ x)[l]? = some (.ow d) → Γ[l]? = some (.ow d) := fun _ _ _ _ e => set_noow _ _ (set_noow _ _ e)
theorem sm2 {i j : Nat} : ∀ Γ x (l : Nat), l ∉ [i, j] → (st2 i ea j eb Γ x)[l]? = Γ[l]? := fun _ _ _ h => (List.getElem?_set_ne (fun z => h (by simp [z]))).trans (List.getElem?_set_ne (fun z => h (by simp [z])))
theorem noow3 {i j k : Nat} : ∀ Γ x (l : Nat) d, (st3 i ea j eb k ec Γ x)[l]? = some (.ow d) → Γ[l]? = some (.ow d) := fun _ _ _ _ e => set_noow _ _ (set_noow _ _ (set_noow _ _ e))
theorem sm3 {i j k : Nat} : ∀ Γ x (l : Nat), l ∉ [i, j, k] → (st3 i ea j eb k ec Γ x)[l]? = Γ[l]? := fun _ _ _ h => (List.getElem?_set_ne (fun z => h (by simp [z]))).trans ((List.getElem?_set_ne (fun z => h (by simp [z]))).trans (List.getElem?_set_ne (fun z => h (by simp [z]))))
theorem g2 (i j : Nat) {x y : Str} {p q : Pos} {k : Nat} (ea : α → PyData) (eb : β → PyData) (hc : X.calm = true) (hN : X.N.Nodup) (hi : X.N[i]? = some x := by rfl) (hj : X.N[j]? = some y := by rfl) (hx : Loc X.env.scope x := by first | exact Or.inl rfl | exact Or.inr rfl) (hy : Loc X.env.scope y := by first | exact Or.inl rfl | exact Or.inr rfl)
    (hf : X.fn x = true ∨ X.env.scope.names.lookup x = some .local := by first | exact .inl rfl | exact .inr rfl) (hf2 : X.fn y = true ∨ X.env.scope.names.lookup y = some .local := by first | exact .inl rfl | exact .inr rfl) :
    GJ X (.Tuple [.Name x p, .Name y q] k pos) (st2 i ea j eb) [i, j] (eP (eC ea (eC eb eU))) :=
  g_tup (n := 2) hc (gs_cons (g1 i ea hN hi hx hf) (gs_cons (g1 j eb hN hj hy hf2) gs_nil noow1) noow1)
theorem g3 (i j l : Nat) {x y z : Str} {p q r : Pos} {k : Nat} (ea : α → PyData) (eb : β → PyData) (ec : γ → PyData) (hc : X.calm = true) (hN : X.N.Nodup) (hi : X.N[i]? = some x := by rfl) (hj : X.N[j]? = some y := by rfl) (hl : X.N[l]? = some z := by rfl) (hx : Loc X.env.scope x := by first | exact Or.inl rfl | exact Or.inr rfl) (hy : Loc X.env.scope y := by first | exact Or.inl rfl | exact Or.inr rfl) (hz : Loc X.env.scope z := by first | exact Or.inl rfl | exact Or.inr rfl)
    (hf : X.fn x = true ∨ X.env.scope.names.lookup x = some .local := by first | exact .inl rfl | exact .inr rfl) (hf2 : X.fn y = true ∨ X.env.scope.names.lookup y = some .local := by first | exact .inl rfl | exact .inr rfl) (hf3 : X.fn z = true ∨ X.env.scope.names.lookup z = some .local := by first | exact .inl rfl | exact .inr rfl) :
    GJ X (.Tuple [.Name x p, .Name y q, .Name z r] k pos) (st3 i ea j eb l ec) [i, j, l] (eP (eC ea (eC eb (eC ec eU)))) :=
  g_tup (n := 3) hc (gs_cons (g1 i ea hN hi hx hf) (gs_cons (g1 j eb hN hj hy hf2) (gs_cons (g1 l ec hN hl hz hf3) gs_nil noow1) noow1) noow1)
/-- no own list at the places vs -/
theorem noOw {Γ : List Slot} {vs : List Nat} (h : (vs.all fun i => match Γ[i]? with | some (.ow _) => false | _ => true) = true) : ∀ i ∈ vs, ∀ d, Γ[i]? ≠ some (.ow d) := fun i hi d e => by
  have := List.all_eq_true.mp h i hi
  rw [e] at this
  cases this
end
end Pz

namespace Pz
open PySem PySem.Spec PyProof.Rows L2

section
variable {α β γ δ ζ κ ρ ι : Type} {ea : α → PyData} {eb : β → PyData} {ec : γ → PyData} {ed : δ → PyData} {ez : ζ → PyData} {er : ρ → PyData} {X : Cx} {R : Res} {Γ Γ' : List Slot} {a b c d z : Expr} {pos : Pos}
/-! ### calls of defs, by the number of their arguments -/
theorem e_c1 {k : Nat} {f : Addr} {fd : FuncData} {ps : List Str} {x : Str} {p : Pos} {g : α → M ρ} {mα : M α} (F : FnG X.prog X.w X.K X.mg X.base k f fd ps (SpM (fun p : α × Unit => [.fz (ea p.1)]) er (fun p : α × Unit => g p.1))) (hG : X.A.guards = some []) (hr : Room k X.A) (hm : X.mg x = some (.ref f)) (hk : PySem.W.keepIn X.K (.ref f) = true)
    (hB : Binds X.K fd ps []) (ha : EJ X R Γ a ea mα) (hg : Gl X x := by rfl) (hdb : (x == ("__debug__" : Str)) = false := by decide) (has : starEach [a] X.env = (false, eval a X.env) :: starEach [] X.env := by rfl) (hpl : (backTo pos (starEach [] X.env)).any (·.1) = false := by rfl) :
    EJ X R Γ (.Call (.Name x p) [a] [] pos) er (bindM mα fun v0 => g v0) := by
  have h := e_callG (pos := pos) (p := p) F hG hr hm hk hB (a_cons ha a_nil has) hg hdb has hpl
  simpa using h
theorem e_cs1 {k : Nat} {f : Addr} {fd : FuncData} {ps : List Str} {x : Str} {p : Pos} {y : Str} {q : Pos} (i : Nat) {g : α → M ρ} {mα : M α} (F : FnG X.prog X.w X.K X.mg X.base k f fd ps (SpM (fun p : α × Unit => [.src, .fz (ea p.1)]) er (fun p : α × Unit => g p.1))) (hG : X.A.guards = some []) (hr : Room k X.A) (hm : X.mg x = some (.ref f)) (hk : PySem.W.keepIn X.K (.ref f) = true)
    (hB : Binds X.K fd ps []) (ha : EJ X R Γ a ea mα) (hg : Gl X x := by rfl) (hdb : (x == ("__debug__" : Str)) = false := by decide) (has : starEach [a] X.env = (false, eval a X.env) :: starEach [] X.env := by rfl) (hΓ : Γ[i]? = some .src := by rfl) (hN : X.N[i]? = some y := by rfl) (hv : Vis X.env.scope y := by first | exact Or.inl rfl | exact Or.inr (Or.inl rfl) | exact Or.inr (Or.inr rfl)) (hyd : (y == ("__debug__" : Str)) = false := by decide) (hyc : (y == ("__classdict__" : Str)) = false := by decide) (hsrc : starEach (.Name y q :: [a]) X.env = (false, eval (.Name y q) X.env) :: starEach [a] X.env := by rfl) (hpl : (backTo pos (starEach [a] X.env)).any (·.1) = false := by rfl) :
    EJ X R Γ (.Call (.Name x p) [.Name y q, a] [] pos) er (bindM mα fun v0 => g v0) := by
  have h := e_callG (pos := pos) (p := p) F hG hr hm hk hB (a_src i (a_cons ha a_nil has) hΓ hN hv hyd hyc hsrc) hg hdb hsrc hpl
  simpa using h
theorem e_c2 {k : Nat} {f : Addr} {fd : FuncData} {ps : List Str} {x : Str} {p : Pos} {g : α → β → M ρ} {mα : M α} {mβ : M β} (F : FnG X.prog X.w X.K X.mg X.base k f fd ps (SpM (fun p : α × β × Unit => [.fz (ea p.1), .fz (eb p.2.1)]) er (fun p : α × β × Unit => g p.1 p.2.1))) (hG : X.A.guards = some []) (hr : Room k X.A) (hm : X.mg x = some (.ref f)) (hk : PySem.W.keepIn X.K (.ref f) = true)
    (hB : Binds X.K fd ps []) (ha : EJ X R Γ a ea mα) (hb : EJ X R Γ b eb mβ) (hg : Gl X x := by rfl) (hdb : (x == ("__debug__" : Str)) = false := by decide) (has : starEach [a, b] X.env = (false, eval a X.env) :: starEach [b] X.env := by rfl) (hbs : starEach [b] X.env = (false, eval b X.env) :: starEach [] X.env := by rfl) (hpl : (backTo pos (starEach [b] X.env)).any (·.1) = false := by rfl) :
    EJ X R Γ (.Call (.Name x p) [a, b] [] pos) er (bindM mα fun v0 => bindM mβ fun v1 => g v0 v1) := by
  have h := e_callG (pos := pos) (p := p) F hG hr hm hk hB (a_cons ha (a_cons hb a_nil hbs) has) hg hdb has hpl
  simpa using h
theorem e_cs2 {k : Nat} {f : Addr} {fd : FuncData} {ps : List Str} {x : Str} {p : Pos} {y : Str} {q : Pos} (i : Nat) {g : α → β → M ρ} {mα : M α} {mβ : M β} (F : FnG X.prog X.w X.K X.mg X.base k f fd ps (SpM (fun p : α × β × Unit => [.src, .fz (ea p.1), .fz (eb p.2.1)]) er (fun p : α × β × Unit => g p.1 p.2.1))) (hG : X.A.guards = some []) (hr : Room k X.A) (hm : X.mg x = some (.ref f)) (hk : PySem.W.keepIn X.K (.ref f) = true)
    (hB : Binds X.K fd ps []) (ha : EJ X R Γ a ea mα) (hb : EJ X R Γ b eb mβ) (hg : Gl X x := by rfl) (hdb : (x == ("__debug__" : Str)) = false := by decide) (has : starEach [a, b] X.env = (false, eval a X.env) :: starEach [b] X.env := by rfl) (hbs : starEach [b] X.env = (false, eval b X.env) :: starEach [] X.env := by rfl) (hΓ : Γ[i]? = some .src := by rfl) (hN : X.N[i]? = some y := by rfl) (hv : Vis X.env.scope y := by first | exact Or.inl rfl | exact Or.inr (Or.inl rfl) | exact Or.inr (Or.inr rfl)) (hyd : (y == ("__debug__" : Str)) = false := by decide) (hyc : (y == ("__classdict__" : Str)) = false := by decide) (hsrc : starEach (.Name y q :: [a, b]) X.env = (false, eval (.Name y q) X.env) :: starEach [a, b] X.env := by rfl) (hpl : (backTo pos (starEach [a, b] X.env)).any (·.1) = false := by rfl) :
    EJ X R Γ (.Call (.Name x p) [.Name y q, a, b] [] pos) er (bindM mα fun v0 => bindM mβ fun v1 => g v0 v1) := by
  have h := e_callG (pos := pos) (p := p) F hG hr hm hk hB (a_src i (a_cons ha (a_cons hb a_nil hbs) has) hΓ hN hv hyd hyc hsrc) hg hdb hsrc hpl
  simpa using h
theorem e_c3 {k : Nat} {f : Addr} {fd : FuncData} {ps : List Str} {x : Str} {p : Pos} {g : α → β → γ → M ρ} {mα : M α} {mβ : M β} {mγ : M γ} (F : FnG X.prog X.w X.K X.mg X.base k f fd ps (SpM (fun p : α × β × γ × Unit => [.fz (ea p.1), .fz (eb p.2.1), .fz (ec p.2.2.1)]) er (fun p : α × β × γ × Unit => g p.1 p.2.1 p.2.2.1))) (hG : X.A.guards = some []) (hr : Room k X.A) (hm : X.mg x = some (.ref f)) (hk : PySem.W.keepIn X.K (.ref f) = true)
    (hB : Binds X.K fd ps []) (ha : EJ X R Γ a ea mα) (hb : EJ X R Γ b eb mβ) (hc : EJ X R Γ c ec mγ) (hg : Gl X x := by rfl) (hdb : (x == ("__debug__" : Str)) = false := by decide) (has : starEach [a, b, c] X.env = (false, eval a X.env) :: starEach [b, c] X.env := by rfl) (hbs : starEach [b, c] X.env = (false, eval b X.env) :: starEach [c] X.env := by rfl) (hcs : starEach [c] X.env = (false, eval c X.env) :: starEach [] X.env := by rfl) (hpl : (backTo pos (starEach [b, c] X.env)).any (·.1) = false := by rfl) :
    EJ X R Γ (.Call (.Name x p) [a, b, c] [] pos) er (bindM mα fun v0 => bindM mβ fun v1 => bindM mγ fun v2 => g v0 v1 v2) := by
  have h := e_callG (pos := pos) (p := p) F hG hr hm hk hB (a_cons ha (a_cons hb (a_cons hc a_nil hcs) hbs) has) hg hdb has hpl
  simpa using h
theorem e_cs3 {k : Nat} {f : Addr} {fd : FuncData} {ps : List Str} {x : Str} {p : Pos} {y : Str} {q : Pos} (i : Nat) {g : α → β → γ → M ρ} {mα : M α} {mβ : M β} {mγ : M γ} (F : FnG X.prog X.w X.K X.mg X.base k f fd ps (SpM (fun p : α × β × γ × Unit => [.src, .fz (ea p.1), .fz (eb p.2.1), .fz (ec p.2.2.1)]) er (fun p : α × β × γ × Unit => g p.1 p.2.1 p.2.2.1))) (hG : X.A.guards = some []) (hr : Room k X.A) (hm : X.mg x = some (.ref f)) (hk : PySem.W.keepIn X.K (.ref f) = true)
    (hB : Binds X.K fd ps []) (ha : EJ X R Γ a ea mα) (hb : EJ X R Γ b eb mβ) (hc : EJ X R Γ c ec mγ) (hg : Gl X x := by rfl) (hdb : (x == ("__debug__" : Str)) = false := by decide) (has : starEach [a, b, c] X.env = (false, eval a X.env) :: starEach [b, c] X.env := by rfl) (hbs : starEach [b, c] X.env = (false, eval b X.env) :: starEach [c] X.env := by rfl) (hcs : starEach [c] X.env = (false, eval c X.env) :: starEach [] X.env := by rfl) (hΓ : Γ[i]? = some .src := by rfl) (hN : X.N[i]? = some y := by rfl) (hv : Vis X.env.scope y := by first | exact Or.inl rfl | exact Or.inr (Or.inl rfl) | exact Or.inr (Or.inr rfl)) (hyd : (y == ("__debug__" : Str)) = false := by decide) (hyc : (y == ("__classdict__" : Str)) = false := by decide) (hsrc : starEach (.Name y q :: [a, b, c]) X.env = (false, eval (.Name y q) X.env) :: starEach [a, b, c] X.env := by rfl) (hpl : (backTo pos (starEach [a, b, c] X.env)).any (·.1) = false := by rfl) :
    EJ X R Γ (.Call (.Name x p) [.Name y q, a, b, c] [] pos) er (bindM mα fun v0 => bindM mβ fun v1 => bindM mγ fun v2 => g v0 v1 v2) := by
  have h := e_callG (pos := pos) (p := p) F hG hr hm hk hB (a_src i (a_cons ha (a_cons hb (a_cons hc a_nil hcs) hbs) has) hΓ hN hv hyd hyc hsrc) hg hdb hsrc hpl
  simpa using h
theorem e_c4 {k : Nat} {f : Addr} {fd : FuncData} {ps : List Str} {x : Str} {p : Pos} {g : α → β → γ → δ → M ρ} {mα : M α} {mβ : M β} {mγ : M γ} {mδ : M δ} (F : FnG X.prog X.w X.K X.mg X.base k f fd ps (SpM (fun p : α × β × γ × δ × Unit => [.fz (ea p.1), .fz (eb p.2.1), .fz (ec p.2.2.1), .fz (ed p.2.2.2.1)]) er (fun p : α × β × γ × δ × Unit => g p.1 p.2.1 p.2.2.1 p.2.2.2.1))) (hG : X.A.guards = some []) (hr : Room k X.A) (hm : X.mg x = some (.ref f)) (hk : PySem.W.keepIn X.K (.ref f) = true)
    (hB : Binds X.K fd ps []) (ha : EJ X R Γ a ea mα) (hb : EJ X R Γ b eb mβ) (hc : EJ X R Γ c ec mγ) (hd : EJ X R Γ d ed mδ) (hg : Gl X x := by rfl) (hdb : (x == ("__debug__" : Str)) = false := by decide) (has : starEach [a, b, c, d] X.env = (false, eval a X.env) :: starEach [b, c, d] X.env := by rfl) (hbs : starEach [b, c, d] X.env = (false, eval b X.env) :: starEach [c, d] X.env := by rfl) (hcs : starEach [c, d] X.env = (false, eval c X.env) :: starEach [d] X.env := by rfl) (hds : starEach [d] X.env = (false, eval d X.env) :: starEach [] X.env := by rfl) (hpl : (backTo pos (starEach [b, c, d] X.env)).any (·.1) = false := by rfl) :
    EJ X R Γ (.Call (.Name x p) [a, b, c, d] [] pos) er (bindM mα fun v0 => bindM mβ fun v1 => bindM mγ fun v2 => bindM mδ fun v3 => g v0 v1 v2 v3) := by
  have h := e_callG (pos := pos) (p := p) F hG hr hm hk hB (a_cons ha (a_cons hb (a_cons hc (a_cons hd a_nil hds) hcs) hbs) has) hg hdb has hpl
  simpa using h
theorem e_cs4 {k : Nat} {f : Addr} {fd : FuncData} {ps : List Str} {x : Str} {p : Pos} {y : Str} {q : Pos} (i : Nat) {g : α → β → γ → δ → M ρ} {mα : M α} {mβ : M β} {mγ : M γ} {mδ : M δ} (F : FnG X.prog X.w X.K X.mg X.base k f fd ps (SpM (fun p : α × β × γ × δ × Unit => [.src, .fz (ea p.1), .fz (eb p.2.1), .fz (ec p.2.2.1), .fz (ed p.2.2.2.1)]) er (fun p : α × β × γ × δ × Unit => g p.1 p.2.1 p.2.2.1 p.2.2.2.1))) (hG : X.A.guards = some []) (hr : Room k X.A) (hm : X.mg x = some (.ref f)) (hk : PySem.W.keepIn X.K (.ref f) = true)
    (hB : Binds X.K fd ps []) (ha : EJ X R Γ a ea mα) (hb : EJ X R Γ b eb mβ) (hc : EJ X R Γ c ec mγ) (hd : EJ X R Γ d ed mδ) (hg : Gl X x := by rfl) (hdb : (x == ("__debug__" : Str)) = false := by decide) (has : starEach [a, b, c, d] X.env = (false, eval a X.env) :: starEach [b, c, d] X.env := by rfl) (hbs : starEach [b, c, d] X.env = (false, eval b X.env) :: starEach [c, d] X.env := by rfl) (hcs : starEach [c, d] X.env = (false, eval c X.env) :: starEach [d] X.env := by rfl) (hds : starEach [d] X.env = (false, eval d X.env) :: starEach [] X.env := by rfl) (hΓ : Γ[i]? = some .src := by rfl) (hN : X.N[i]? = some y := by rfl) (hv : Vis X.env.scope y := by first | exact Or.inl rfl | exact Or.inr (Or.inl rfl) | exact Or.inr (Or.inr rfl)) (hyd : (y == ("__debug__" : Str)) = false := by decide) (hyc : (y == ("__classdict__" : Str)) = false := by decide) (hsrc : starEach (.Name y q :: [a, b, c, d]) X.env = (false, eval (.Name y q) X.env) :: starEach [a, b, c, d] X.env := by rfl) (hpl : (backTo pos (starEach [a, b, c, d] X.env)).any (·.1) = false := by rfl) :
    EJ X R Γ (.Call (.Name x p) [.Name y q, a, b, c, d] [] pos) er (bindM mα fun v0 => bindM mβ fun v1 => bindM mγ fun v2 => bindM mδ fun v3 => g v0 v1 v2 v3) := by
  have h := e_callG (pos := pos) (p := p) F hG hr hm hk hB (a_src i (a_cons ha (a_cons hb (a_cons hc (a_cons hd a_nil hds) hcs) hbs) has) hΓ hN hv hyd hyc hsrc) hg hdb hsrc hpl
  simpa using h
theorem e_c5 {k : Nat} {f : Addr} {fd : FuncData} {ps : List Str} {x : Str} {p : Pos} {g : α → β → γ → δ → ζ → M ρ} {mα : M α} {mβ : M β} {mγ : M γ} {mδ : M δ} {mζ : M ζ} (F : FnG X.prog X.w X.K X.mg X.base k f fd ps (SpM (fun p : α × β × γ × δ × ζ × Unit => [.fz (ea p.1), .fz (eb p.2.1), .fz (ec p.2.2.1), .fz (ed p.2.2.2.1), .fz (ez p.2.2.2.2.1)]) er (fun p : α × β × γ × δ × ζ × Unit => g p.1 p.2.1 p.2.2.1 p.2.2.2.1 p.2.2.2.2.1))) (hG : X.A.guards = some []) (hr : Room k X.A) (hm : X.mg x = some (.ref f)) (hk : PySem.W.keepIn X.K (.ref f) = true)
    (hB : Binds X.K fd ps []) (ha : EJ X R Γ a ea mα) (hb : EJ X R Γ b eb mβ) (hc : EJ X R Γ c ec mγ) (hd : EJ X R Γ d ed mδ) (hz : EJ X R Γ z ez mζ) (hg : Gl X x := by rfl) (hdb : (x == ("__debug__" : Str)) = false := by decide) (has : starEach [a, b, c, d, z] X.env = (false, eval a X.env) :: starEach [b, c, d, z] X.env := by rfl) (hbs : starEach [b, c, d, z] X.env = (false, eval b X.env) :: starEach [c, d, z] X.env := by rfl) (hcs : starEach [c, d, z] X.env = (false, eval c X.env) :: starEach [d, z] X.env := by rfl) (hds : starEach [d, z] X.env = (false, eval d X.env) :: starEach [z] X.env := by rfl) (hzs : starEach [z] X.env = (false, eval z X.env) :: starEach [] X.env := by rfl) (hpl : (backTo pos (starEach [b, c, d, z] X.env)).any (·.1) = false := by rfl) :
    EJ X R Γ (.Call (.Name x p) [a, b, c, d, z] [] pos) er (bindM mα fun v0 => bindM mβ fun v1 => bindM mγ fun v2 => bindM mδ fun v3 => bindM mζ fun v4 => g v0 v1 v2 v3 v4) := by
  have h := e_callG (pos := pos) (p := p) F hG hr hm hk hB (a_cons ha (a_cons hb (a_cons hc (a_cons hd (a_cons hz a_nil hzs) hds) hcs) hbs) has) hg hdb has hpl
  simpa using h
theorem e_cs5 {k : Nat} {f : Addr} {fd : FuncData} {ps : List Str} {x : Str} {p : Pos} {y : Str} {q : Pos} (i : Nat) {g : α → β → γ → δ → ζ → M ρ} {mα : M α} {mβ : M β} {mγ : M γ} {mδ : M δ} {mζ : M ζ} (F : FnG X.prog X.w X.K X.mg X.base k f fd ps (SpM (fun p : α × β × γ × δ × ζ × Unit => [.src, .fz (ea p.1), .fz (eb p.2.1), .fz (ec p.2.2.1), .fz (ed p.2.2.2.1), .fz (ez p.2.2.2.2.1)]) er (fun p : α × β × γ × δ × ζ × Unit => g p.1 p.2.1 p.2.2.1 p.2.2.2.1 p.2.2.2.2.1))) (hG : X.A.guards = some []) (hr : Room k X.A) (hm : X.mg x = some (.ref f)) (hk : PySem.W.keepIn X.K (.ref f) = true)
    (hB : Binds X.K fd ps []) (ha : EJ X R Γ a ea mα) (hb : EJ X R Γ b eb mβ) (hc : EJ X R Γ c ec mγ) (hd : EJ X R Γ d ed mδ) (hz : EJ X R Γ z ez mζ) (hg : Gl X x := by rfl) (hdb : (x == ("__debug__" : Str)) = false := by decide) (has : starEach [a, b, c, d, z] X.env = (false, eval a X.env) :: starEach [b, c, d, z] X.env := by rfl) (hbs : starEach [b, c, d, z] X.env = (false, eval b X.env) :: starEach [c, d, z] X.env := by rfl) (hcs : starEach [c, d, z] X.env = (false, eval c X.env) :: starEach [d, z] X.env := by rfl) (hds : starEach [d, z] X.env = (false, eval d X.env) :: starEach [z] X.env := by rfl) (hzs : starEach [z] X.env = (false, eval z X.env) :: starEach [] X.env := by rfl) (hΓ : Γ[i]? = some .src := by rfl) (hN : X.N[i]? = some y := by rfl) (hv : Vis X.env.scope y := by first | exact Or.inl rfl | exact Or.inr (Or.inl rfl) | exact Or.inr (Or.inr rfl)) (hyd : (y == ("__debug__" : Str)) = false := by decide) (hyc : (y == ("__classdict__" : Str)) = false := by decide) (hsrc : starEach (.Name y q :: [a, b, c, d, z]) X.env = (false, eval (.Name y q) X.env) :: starEach [a, b, c, d, z] X.env := by rfl) (hpl : (backTo pos (starEach [a, b, c, d, z] X.env)).any (·.1) = false := by rfl) :
    EJ X R Γ (.Call (.Name x p) [.Name y q, a, b, c, d, z] [] pos) er (bindM mα fun v0 => bindM mβ fun v1 => bindM mγ fun v2 => bindM mδ fun v3 => bindM mζ fun v4 => g v0 v1 v2 v3 v4) := by
  have h := e_callG (pos := pos) (p := p) F hG hr hm hk hB (a_src i (a_cons ha (a_cons hb (a_cons hc (a_cons hd (a_cons hz a_nil hzs) hds) hcs) hbs) has) hΓ hN hv hyd hyc hsrc) hg hdb hsrc hpl
  simpa using h
theorem e_cs0 {k : Nat} {f : Addr} {fd : FuncData} {ps : List Str} {x y : Str} {p q : Pos} (i : Nat) {g : M ρ} (F : FnG X.prog X.w X.K X.mg X.base k f fd ps (SpM (fun _ : Unit => [.src]) er (fun _ => g))) (hG : X.A.guards = some []) (hr : Room k X.A) (hm : X.mg x = some (.ref f)) (hk : PySem.W.keepIn X.K (.ref f) = true)
    (hB : Binds X.K fd ps []) (hg : Gl X x := by rfl) (hdb : (x == ("__debug__" : Str)) = false := by decide) (hΓ : Γ[i]? = some .src := by rfl) (hN : X.N[i]? = some y := by rfl) (hv : Vis X.env.scope y := by first | exact Or.inl rfl | exact Or.inr (Or.inl rfl) | exact Or.inr (Or.inr rfl)) (hyd : (y == ("__debug__" : Str)) = false := by decide) (hyc : (y == ("__classdict__" : Str)) = false := by decide)
    (hsrc : starEach [.Name y q] X.env = (false, eval (.Name y q) X.env) :: starEach [] X.env := by rfl) : EJ X R Γ (.Call (.Name x p) [.Name y q] [] pos) er g := by
  have h := e_callG (R := R) (pos := pos) (p := p) F hG hr hm hk hB (a_src i a_nil hΓ hN hv hyd hyc hsrc) hg hdb hsrc rfl
  simpa using h
end
end Pz

namespace Pz
open PySem PySem.Spec PyProof.Rows L2
/-! ### the draws -/
def drawC : Nat → List Int → Int → List Int × Int
  | 0, c, l => (c, l)
  | n + 1, c, l => if l < 2 then (match c.getLast? with
    | some y => drawC n c.dropLast y
    | none => (c, l)) else (c, l)
def pickM (most : Int) : M Int := fun s =>
  if most < 2 then some (0, s) else if 1073741824 ≤ most then none else
  let q := drawC s.cells.length s.cells s.left
  if 1 < q.2 then some (q.2.fmod most, ⟨q.1, q.2.fdiv most, s.mixed, s.turn⟩)
  else
    let t := s.turn + 1
    let a := (s.mixed + t * 104729).fmod 998244353
    let b := (a * a + t * 17).fmod 2147483647
    some ((b.fdiv 16).fmod most, ⟨q.1, q.2, s.mixed, t⟩)
/-- a drawn number lies where it is asked to -/
theorem pick_lt {most : Int} (h : most < 1073741824) (s : Src) : ∃ r s', pickM most s = some (r, s') ∧ 0 ≤ r ∧ (r < most ∨ r = 0) := by
  unfold pickM
  by_cases h2 : most < 2
  · rw [if_pos h2]; exact ⟨0, s, rfl, Int.le_refl 0, .inr rfl⟩
  · rw [if_neg h2, if_neg (by omega)]
    have pos : 0 < most := by omega
    dsimp only
    split
    · exact ⟨_, _, rfl, Int.fmod_nonneg_of_pos _ pos, .inl (Int.fmod_lt_of_pos _ pos)⟩
    · exact ⟨_, _, rfl, Int.fmod_nonneg_of_pos _ pos, .inl (Int.fmod_lt_of_pos _ pos)⟩
theorem drawC_stop : ∀ (n : Nat) (c : List Int) (l : Int), ¬ l < 2 → drawC n c l = (c, l)
  | 0, _, _, _ => rfl
  | n + 1, c, l, h => by unfold drawC; rw [if_neg h]
theorem drawC_nil : ∀ (n : Nat) (l : Int), drawC n [] l = ([], l)
  | 0, _ => rfl
  | n + 1, l => by unfold drawC; split <;> rfl
theorem drawC_snoc (c : List Int) (y l : Int) (h : l < 2) : drawC (c ++ [y]).length (c ++ [y]) l = drawC c.length c y := by
  rw [List.length_append, List.length_singleton]
  conv => lhs; unfold drawC
  rw [if_pos h, List.getLast?_concat, List.dropLast_concat]
def srcKv (c : Addr) (l m t : Int) : List (Key × V) := [(.inr "cells", .ref c), (.inr "left", .int l), (.inr "mixed", .int m), (.inr "turn", .int t)]
theorem src_cells (c : Addr) (l m t : Int) : valV (srcKv c l m t) (.inr "cells") = some (.ref c) := rfl
theorem src_left (c : Addr) (l m t : Int) : valV (srcKv c l m t) (.inr "left") = some (.int l) := rfl
theorem src_mixed (c : Addr) (l m t : Int) : valV (srcKv c l m t) (.inr "mixed") = some (.int m) := rfl
theorem src_turn (c : Addr) (l m t : Int) : valV (srcKv c l m t) (.inr "turn") = some (.int t) := rfl
theorem put_left (c : Addr) (l m t x : Int) : putK (srcKv c l m t) (.inr "left") (.int x) = srcKv c x m t := rfl
theorem put_mixed (c : Addr) (l m t x : Int) : putK (srcKv c l m t) (.inr "mixed") (.int x) = srcKv c l x t := rfl
theorem put_turn (c : Addr) (l m t x : Int) : putK (srcKv c l m t) (.inr "turn") (.int x) = srcKv c l m x := rfl
theorem srcKv_few (c : Addr) (l m t : Int) : (srcKv c l m t).length < sizeLine := by show 4 < sizeLine; decide
/-- where a draw stands behind its loop -/
def tDrawn (a c : Addr) (most : Int) (st : Src) (H : Hp) (Q : VK) : TS := fun D σ H' => ∃ cs l, σ = [some (.ref a), some (.int most), some (.ref c), none, none, none] ∧ H' a = some (.dK (srcKv c l st.mixed st.turn)) ∧ H' c = some (.lst (cs.map V.int)) ∧
  drawC st.cells.length st.cells st.left = (cs, l) ∧ Keep (Zr (some (a, c))) H H' ∧ ∀ z H2, Q (.int z) H2 → D.rt (.int z) H2
end Pz

namespace Pz
open PySem PySem.Spec PyProof.Rows L2
/-! ### what the walks of one law share -/
/-- a def that is called: found, kept, its arguments bound -/
structure Cal (K : PySem.W.Frag) (mg : Str → Option Value) (x : Str) (f : Addr) (fd : FuncData) (ps : List Str) : Prop where
  mg : mg x = some (.ref f)
  kp : PySem.W.keepIn K (.ref f) = true
  bd : Binds K fd ps []
/-- the built-ins that no global name hides -/
structure Bl (mg : Str → Option Value) : Prop where
  b_len : mg "len" = none
  b_int : mg "int" = none
  b_abs : mg "abs" = none
  b_range : mg "range" = none
  b_sorted : mg "sorted" = none
  b_sum : mg "sum" = none
  b_all : mg "all" = none
  b_any : mg "any" = none
  b_tuple : mg "tuple" = none
  b_list : mg "list" = none
  b_max : mg "max" = none
  b_min : mg "min" = none
  b_repr : mg "repr" = none
  b_enumerate : mg "enumerate" = none
  b_zip : mg "zip" = none
  b_isinstance : mg "isinstance" = none
  b_bool : mg "bool" = none
  b_str : mg "str" = none
  b_dict : mg "dict" = none
theorem bt_len : bootBuiltins "len" = some (.builtin "len") := by decide +kernel
theorem bt_int : bootBuiltins "int" = some (.type "int") := by decide +kernel
theorem bt_abs : bootBuiltins "abs" = some (.builtin "abs") := by decide +kernel
theorem bt_sorted : bootBuiltins "sorted" = some (.builtin "sorted") := by decide +kernel
theorem bt_sum : bootBuiltins "sum" = some (.builtin "sum") := by decide +kernel
theorem bt_all : bootBuiltins "all" = some (.builtin "all") := by decide +kernel
theorem bt_any : bootBuiltins "any" = some (.builtin "any") := by decide +kernel
theorem bt_tuple : bootBuiltins "tuple" = some (.type "tuple") := by decide +kernel
theorem bt_list : bootBuiltins "list" = some (.type "list") := by decide +kernel
theorem bt_max : bootBuiltins "max" = some (.builtin "max") := by decide +kernel
theorem bt_min : bootBuiltins "min" = some (.builtin "min") := by decide +kernel
theorem bt_repr : bootBuiltins "repr" = some (.builtin "repr") := by decide +kernel
theorem bt_bool : bootBuiltins "bool" = some (.type "bool") := by decide +kernel
theorem bt_str : bootBuiltins "str" = some (.type "str") := by decide +kernel
theorem bt_dict : bootBuiltins "dict" = some (.type "dict") := by decide +kernel
theorem bt_isinstance : bootBuiltins "isinstance" = some (.builtin "isinstance") := by decide +kernel
/-- _law_of, for every kind of items -/
def ofM {α : Type} (xs : List α) : M α := bindM (pureM xs) fun x => bindM (bindM (bindM (pureM xs) fun y => pureM (y.length : Int)) fun n => pickM n) fun i => optM (atI x i)
structure OfG (P : Program) (w : World) (K : PySem.W.Frag) (mg : Str → Option Value) (base : Heap) (f : Addr) (fd : FuncData) : Prop where
  L : ∀ {α : Type} (ea : α → PyData), FnG P w K mg base 2 f fd ["source", "some"] (SpM (fun p : List α × Unit => [.src, .fz (eL ea p.1)]) ea (fun p => ofM p.1))
  T : ∀ {α : Type} (ea : α → PyData), FnG P w K mg base 2 f fd ["source", "some"] (SpM (fun p : List α × Unit => [.src, .fz (eT ea p.1)]) ea (fun p => ofM p.1))
section
variable {α β γ δ κ ρ ι : Type} {ea : α → PyData} {eb : β → PyData} {ec : γ → PyData} {er : ρ → PyData} {ei : ι → PyData} {X : Cx} {R : Res} {Γ Γ' : List Slot} {e a b c : Expr} {st : Stmt} {rest A B body : List Stmt} {pos : Pos} {out : κ → OutD}
theorem e_eqB {ma mb : M Bool} (ha : EJ X R Γ a eBool ma) (hb : EJ X R Γ b eBool mb) : EJ X R Γ (.Compare a [.Eq] [b] pos) eBool (bindM ma fun x => bindM mb fun y => pureM (decide (x = y))) := e_cmp op_eq v_eqB ha hb
theorem e_neB {ma mb : M Bool} (ha : EJ X R Γ a eBool ma) (hb : EJ X R Γ b eBool mb) : EJ X R Γ (.Compare a [.NotEq] [b] pos) eBool (bindM ma fun x => bindM mb fun y => pureM (!decide (x = y))) := e_cmp op_ne v_neB ha hb
theorem t_eqB {ma mb : M Bool} (ha : EJ X R Γ a eBool ma) (hb : EJ X R Γ b eBool mb) : TJ X R Γ (.Compare a [.Eq] [b] pos) (bindM ma fun x => bindM mb fun y => pureM (decide (x = y))) := t_cmp op_eq v_eqB ha hb
theorem t_neB {ma mb : M Bool} (ha : EJ X R Γ a eBool ma) (hb : EJ X R Γ b eBool mb) : TJ X R Γ (.Compare a [.NotEq] [b] pos) (bindM ma fun x => bindM mb fun y => pureM (!decide (x = y))) := t_cmp op_ne v_neB ha hb
theorem e_eqD {k : Nat} {ma : M α} {mb : M β} (hr : Room k X.A) (ha : EJ X R Γ a ea ma) (hb : EJ X R Γ b eb mb) : EJ X R Γ (.Compare a [.Eq] [b] pos) eBool (bindM ma fun x => bindM mb fun y => optM (eqD (ea x) (eb y))) := e_cmp (op_eqP hr.units) v_eqD ha hb
theorem e_neD {k : Nat} {ma : M α} {mb : M β} (hr : Room k X.A) (ha : EJ X R Γ a ea ma) (hb : EJ X R Γ b eb mb) : EJ X R Γ (.Compare a [.NotEq] [b] pos) eBool (bindM ma fun x => bindM mb fun y => optM ((eqD (ea x) (eb y)).map (!·))) := e_cmp (op_neP hr.units) v_neD ha hb
theorem t_eqD {k : Nat} {ma : M α} {mb : M β} (hr : Room k X.A) (ha : EJ X R Γ a ea ma) (hb : EJ X R Γ b eb mb) : TJ X R Γ (.Compare a [.Eq] [b] pos) (bindM ma fun x => bindM mb fun y => optM (eqD (ea x) (eb y))) := t_cmp (op_eqP hr.units) v_eqD ha hb
theorem t_neD {k : Nat} {ma : M α} {mb : M β} (hr : Room k X.A) (ha : EJ X R Γ a ea ma) (hb : EJ X R Γ b eb mb) : TJ X R Γ (.Compare a [.NotEq] [b] pos) (bindM ma fun x => bindM mb fun y => optM ((eqD (ea x) (eb y)).map (!·))) := t_cmp (op_neP hr.units) v_neD ha hb
end
end Pz

namespace Pz
open PySem PySem.Spec PyProof.Rows L2
def spSource (K : PySem.W.Frag) : Sp := fun vs H Q _ => ∃ (a : Addr) (ns : List Int), vs = [.ref a] ∧ SqL K H a (ns.map V.int) ∧ ns.length ≤ 63 ∧ ∀ s c st H', H s = none → H c = none → SrcAt s c st H' → Same H H' → Q (.ref s) H'
/-- law(script): the draws, then what the rest says -/
theorem law_ok {P : Program} {w : World} {K : PySem.W.Frag} {mg : Str → Option Value} {base : Heap} {st : Stmt} {f : Addr} {fd : FuncData} {N N' : List Str} {k : Nat} {fs : Addr} {ds : FuncData} {rest : List Stmt} {p1 p2 p3 p4 p5 : Pos} {sn : Str}
    (F : Fun K "law" "law" st f fd) (S : FnScope N ["script"] (defScope st)) (hN : N = ("script" : Str) :: ("source" : Str) :: N') (hb : defBody st = .Assign [.Name "source" p1] (.Call (.Name sn p2) [.Name "script" p3] [] p4) p5 :: rest)
    (C : Cal K mg sn fs ds ["script"]) (Fs : FnG P w K mg base k fs ds ["script"] (spSource K)) (m : M Bool) (hm : ∀ st, ∃ st', m st = some (true, st'))
    (loc : Loc (defScope st) "source" ∧ Vis (defScope st) "script")
    (gl : ∀ (cdv : Value) (A : Around) (above : List Env) (s : Shared) (H : Hp) (E : XK), (sn == ("__debug__" : Str)) = false ∧ Gl (BX P w K mg base N "law" st f cdv A above s H E) sn ∧ starEach [Expr.Name "script" p3] (BX P w K mg base N "law" st f cdv A above s H E).env = (false, eval (.Name "script" p3) (BX P w K mg base N "law" st f cdv A above s H E).env) :: starEach [] (BX P w K mg base N "law" st f cdv A above s H E).env ∧
      swapsWith (.Call (.Name sn p2) [.Name "script" p3] [] p4) (some (.Name "source" p1)) p5.line (BX P w K mg base N "law" st f cdv A above s H E).env = pure false ∧ ((BX P w K mg base N "law" st f cdv A above s H E).fn "source" = true ∨ (BX P w K mg base N "law" st f cdv A above s H E).env.scope.names.lookup ("source" : Str) = some .local))
    (body : ∀ (cdv : Value) (A : Around) (above : List Env) (s : Shared) (H : Hp) (E : XK) (R : Res), A.guards = some [] → Room k (A.deeper (envOfC "law" (defScope st) s.heap.objs.size f cdv)) →
      SJ (BX P w K mg base N "law" st f cdv A above s H E) R (.un :: .src :: List.replicate N'.length .un) rest (fun r => .rt (eBool r)) m) :
    FnG P w K mg base (k + 1) f fd ["script"] (SpLaw K) := by
  refine g_def F S (fun vs H Q E ⟨a, ns, e, _⟩ => by rw [e]; rfl) (fun cdv A above s H vs Q E hG hr h => ?_)
  obtain ⟨a, ns, rfl, hS, hlen, _, q⟩ := h
  obtain ⟨g0, g1, g2, g3, g4⟩ := gl cdv A above s H E
  rw [hb]
  subst hN
  refine ⟨_, pss_cons (ps_set (i := 1) S.nd rfl loc.1 (pe_callG Fs hG hr g1 C.mg C.kp C.bd (pa_cons (pe_var (i := 0) rfl loc.2 (by decide) (by decide)) pa_nil g2) g0 g2 rfl) g3 g4)
    (PSs.ex fun R => body cdv A above s H E R hG hr), ?_⟩
  refine ⟨_, rfl, ?_⟩
  refine ⟨a, ns, rfl, hS, hlen, fun sa c st H' ns nc hat hsame => ?_⟩
  obtain ⟨st', hst⟩ := hm st
  refine ⟨some (sa, c), Zr (some (sa, c)), H', fun _ => 0, st, true, st', ?_, hat, hst, fun v H2 _ _ r => by cases r; exact q H2⟩
  refine ⟨by simp [L2.start], fun i d e => ?_, fun i d e => ?_, fun i e => ?_, fun i j d d' e => ?_, Keep.refl H', fun x z => z, fun x z => okR.dom (R := some (sa, c)) hat z⟩
  · rcases i with _ | _ | i
    · cases e
    · cases e
    · have := List.mem_of_getElem? (show (List.replicate N'.length Slot.un)[i]? = some _ from e)
      rw [List.mem_replicate] at this
      cases this.2
  · rcases i with _ | _ | i
    · cases e
    · cases e
    · have := List.mem_of_getElem? (show (List.replicate N'.length Slot.un)[i]? = some _ from e)
      rw [List.mem_replicate] at this
      cases this.2
  · rcases i with _ | _ | i
    · cases e
    · exact ⟨sa, c, rfl, rfl⟩
    · have := List.mem_of_getElem? (show (List.replicate N'.length Slot.un)[i]? = some _ from e)
      rw [List.mem_replicate] at this
      cases this.2
  · rcases i with _ | _ | i
    · cases e
    · cases e
    · have := List.mem_of_getElem? (show (List.replicate N'.length Slot.un)[i]? = some _ from e)
      rw [List.mem_replicate] at this
      cases this.2
end Pz

/-! the plain side: what a reading hands back -/
namespace Pz
open PySem PySem.Spec PyProof.Rows L2

theorem bp {α β : Type} (a : α) (f : α → M β) : bindM (pureM a) f = f a := funext fun _ => Eq.trans rfl rfl
theorem nil_le {α : Type} {xs : List α} {n m : Nat} (h : xs.length ≤ n) (k : n ≤ m := by decide) : ([] : List α).length + xs.length ≤ m := by simp; omega
def Sat {α : Type} (m : M α) (Q : α → Prop) : Prop := ∀ st, ∃ r st', m st = some (r, st') ∧ Q r
section
variable {α β γ κ ρ ι : Type}
theorem Sat.pure {a : α} {Q : α → Prop} (h : Q a) : Sat (pureM a) Q := fun st => ⟨a, st, rfl, h⟩
theorem Sat.bind {m : M α} {f : α → M β} {Q : β → Prop} (h : Sat m fun a => Sat (f a) Q) : Sat (bindM m f) Q := fun st => by
  obtain ⟨a, u, e, q⟩ := h st
  obtain ⟨b, v, e2, q2⟩ := q u
  exact ⟨b, v, by unfold bindM; rw [e]; exact e2, q2⟩
theorem Sat.mono {m : M α} {Q Q' : α → Prop} (h : Sat m Q) (k : ∀ a, Q a → Q' a) : Sat m Q' := fun st => let ⟨a, u, e, q⟩ := h st; ⟨a, u, e, k a q⟩
theorem Sat.bind2 {m : M α} {f : α → M β} {Q : α → Prop} {Q' : β → Prop} (h : Sat m Q) (k : ∀ a, Q a → Sat (f a) Q') : Sat (bindM m f) Q' := Sat.bind (h.mono k)
theorem Sat.opt {o : Option α} {a : α} {Q : α → Prop} (h : o = some a) (q : Q a) : Sat (optM o) Q := by subst h; exact .pure q
theorem Sat.pick {n : Int} {Q : Int → Prop} (h : n < 1073741824) (q : ∀ r, 0 ≤ r → (r < n ∨ r = 0) → Q r) : Sat (pickM n) Q := fun st => by
  obtain ⟨r, s', e, h0, h1⟩ := pick_lt h st
  exact ⟨r, s', e, q r h0 h1⟩
theorem atI_nat {xs : List α} {i : Nat} (h : i < xs.length) : atI xs (i : Int) = some xs[i] := by
  unfold atI L2.ixN
  rw [if_pos (by omega), if_pos (by omega)]
  simp [h]
theorem Sat.ite {c : Bool} {a b : M α} {Q : α → Prop} (h1 : c = true → Sat a Q) (h2 : c = false → Sat b Q) : Sat (if c then a else b) Q := by
  cases c
  · exact h2 rfl
  · exact h1 rfl
theorem Sat.ofList {xs : List α} {Q : α → Prop} (h0 : xs ≠ []) (hl : xs.length < 1073741824) (q : ∀ x ∈ xs, Q x) : Sat (ofM xs) Q := by
  unfold ofM
  have pos : 0 < xs.length := List.length_pos_iff.mpr h0
  simp only [bind_pure]
  refine Sat.bind2 (Sat.pick (by omega) fun r h1 h2 => (show 0 ≤ r ∧ r < xs.length by omega)) fun r h => ?_
  obtain ⟨i, rfl⟩ : ∃ i : Nat, r = i := ⟨r.toNat, by omega⟩
  have hi : i < xs.length := by omega
  exact Sat.opt (a := xs[i]) (atI_nat hi) (q _ (List.getElem_mem hi))
theorem Sat.forM {f : β → ι → M β} {I : β → Prop} : ∀ {xs : List ι} {b0 : β}, I b0 → (∀ b, ∀ x ∈ xs, I b → Sat (f b x) I) → Sat (forM' f xs b0) I
  | [], b0, h0, _ => .pure h0
  | x :: xs, b0, h0, h => by
    unfold forM'
    exact .bind2 (h b0 x List.mem_cons_self h0) fun b hb => Sat.forM hb fun b y hy => h b y (List.mem_cons_of_mem _ hy)
theorem Sat.forO {f : β → ι → M (Out ρ β)} {I : β → Prop} : ∀ {xs : List ι} {b0 : β}, I b0 → (∀ b, ∀ x ∈ xs, I b → Sat (f b x) fun o => ∃ b, o = .nx b ∧ I b) → Sat (forO f xs b0) fun o => ∃ b, o = .nx b ∧ I b
  | [], b0, h0, _ => .pure ⟨b0, rfl, h0⟩
  | x :: xs, b0, h0, h => by
    unfold Pz.forO
    refine .bind2 (h b0 x List.mem_cons_self h0) fun o ho => ?_
    obtain ⟨b, rfl, hb⟩ := ho
    exact Sat.forO hb fun b y hy => h b y (List.mem_cons_of_mem _ hy)
theorem Sat.comp {c : ι → M Bool} {f : ι → M γ} {Q : γ → Prop} : ∀ {xs : List ι}, (∀ x ∈ xs, Sat (c x) fun b => b = true → Sat (f x) Q) → Sat (compM c f xs) fun ys => ys.length ≤ xs.length ∧ ∀ y ∈ ys, Q y
  | [], _ => .pure ⟨Nat.le_refl _, by simp⟩
  | x :: xs, h => by
    unfold compM
    have ih := Sat.comp (xs := xs) fun y hy => h y (List.mem_cons_of_mem _ hy)
    refine .bind2 (h x List.mem_cons_self) fun b hb => ?_
    cases b with
    | false => exact ih.mono fun ys hy => ⟨Nat.le_trans hy.1 (by simp), hy.2⟩
    | true => exact .bind2 (hb rfl) fun y hy => .bind2 ih fun ys hys => .pure ⟨by simp; exact hys.1, by
        intro z hz
        rcases List.mem_cons.mp hz with rfl | hz
        · exact hy
        · exact hys.2 z hz⟩
theorem Sat.compAll {f : ι → M γ} {Q : γ → Prop} : ∀ {xs : List ι}, (∀ x ∈ xs, Sat (f x) Q) → Sat (compM (fun _ => pureM true) f xs) fun ys => ys.length = xs.length ∧ ∀ y ∈ ys, Q y
  | [], _ => .pure ⟨rfl, by simp⟩
  | x :: xs, h => by
    unfold compM
    have ih := Sat.compAll (xs := xs) fun y hy => h y (List.mem_cons_of_mem _ hy)
    simp only [bind_pure, if_true]
    exact .bind2 (h x List.mem_cons_self) fun y hy => .bind2 ih fun ys hys => .pure ⟨by simp; exact hys.1, by
        intro z hz
        rcases List.mem_cons.mp hz with rfl | hz
        · exact hy
        · exact hys.2 z hz⟩

/-! ### readings that draw nothing -/
theorem compM_pure {c : ι → M Bool} {f : ι → M γ} (cc : ι → Bool) (ff : ι → γ) : ∀ {xs : List ι}, (∀ x ∈ xs, c x = pureM (cc x)) → (∀ x ∈ xs, cc x = true → f x = pureM (ff x)) → compM c f xs = pureM ((xs.filter cc).map ff)
  | [], _, _ => rfl
  | x :: xs, hc, hf => by
    unfold compM
    rw [hc x List.mem_cons_self, bind_pure, compM_pure cc ff (fun y hy => hc y (List.mem_cons_of_mem _ hy)) fun y hy => hf y (List.mem_cons_of_mem _ hy)]
    cases h : cc x with
    | false => simp [h]
    | true => simp [h, hf x List.mem_cons_self h]
theorem compM_map {f : ι → M γ} (ff : ι → γ) {xs : List ι} (hf : ∀ x ∈ xs, f x = pureM (ff x)) : compM (fun _ => pureM true) f xs = pureM (xs.map ff) := by
  have e := compM_pure (c := fun _ : ι => pureM true) (fun _ => true) ff (fun _ _ => rfl) fun x hx _ => hf x hx
  rw [List.filter_eq_self.mpr (fun _ _ => rfl)] at e
  exact e
theorem forM_acc {f : List γ → ι → M (List γ)} (h : ι → List γ) (n : Nat) : ∀ {xs : List ι} {b : List γ}, (∀ x ∈ xs, ∀ b, b.length + (h x).length ≤ n → f b x = pureM (b ++ h x)) → b.length + (xs.flatMap h).length ≤ n → forM' f xs b = pureM (b ++ xs.flatMap h)
  | [], b, _, _ => by simp [forM']
  | x :: xs, b, hf, hn => by
    unfold forM'
    simp only [List.flatMap_cons, List.length_append] at hn
    rw [hf x List.mem_cons_self b (by omega), bind_pure, forM_acc h n (fun y hy => hf y (List.mem_cons_of_mem _ hy)) (by simp only [List.length_append]; omega)]
    simp [List.flatMap_cons]
theorem forM_fold {f : β → ι → M β} (g : β → ι → β) (I : β → Prop) : ∀ {xs : List ι} {b : β}, (∀ x ∈ xs, ∀ b, I b → f b x = pureM (g b x) ∧ I (g b x)) → I b → forM' f xs b = pureM (xs.foldl g b)
  | [], _, _, _ => rfl
  | x :: xs, b, hf, hb => by
    unfold forM'
    obtain ⟨e, i⟩ := hf x List.mem_cons_self b hb
    rw [e, bind_pure, forM_fold g I (fun y hy => hf y (List.mem_cons_of_mem _ hy)) i]
    rfl
/-- for x in xs: if c(x): return r(x) -/
theorem forO_find {f : β → ι → M (Out ρ β)} (c : ι → Bool) (r : ι → ρ) (b : β) : ∀ {xs : List ι}, (∀ x ∈ xs, f b x = pureM (if c x then .rt (r x) else .nx b)) → forO f xs b = pureM (match xs.find? c with | some x => .rt (r x) | none => .nx b)
  | [], _ => rfl
  | x :: xs, hf => by
    unfold forO
    rw [hf x List.mem_cons_self, bind_pure]
    cases h : c x with
    | true => simp [List.find?, h]
    | false =>
      simp only [Bool.false_eq_true, if_false]
      rw [forO_find c r b fun y hy => hf y (List.mem_cons_of_mem _ hy)]
      simp [List.find?, h]
theorem smallM_pure {xs : List α} (h : xs.length ≤ sizeLine) : smallM (pureM xs) = pureM xs := by unfold smallM; rw [bind_pure, if_pos h]
theorem rangeM_ok {lo hi : Int} (h1 : -(2 ^ 61) ≤ lo) (h2 : lo ≤ 2 ^ 61) (h3 : -(2 ^ 61) ≤ hi) (h4 : hi ≤ 2 ^ 61) (h5 : (hi - lo).toNat ≤ 16777216) : rangeM lo hi = pureM (irange lo hi) := by
  unfold rangeM; rw [if_pos ⟨h1, h2, h3, h4, h5⟩]
theorem rangeM_sm {lo hi : Int} (h1 : -1000000 ≤ lo) (h2 : lo ≤ 1000000) (h3 : -1000000 ≤ hi) (h4 : hi ≤ 1000000) : rangeM lo hi = pureM (irange lo hi) := rangeM_ok (by omega) (by omega) (by omega) (by omega) (by omega)
theorem mem_irange {lo hi i : Int} : i ∈ irange lo hi ↔ lo ≤ i ∧ i < hi := by
  unfold irange
  simp only [List.mem_map, List.mem_range]
  constructor
  · rintro ⟨j, h, rfl⟩; omega
  · rintro ⟨h1, h2⟩; exact ⟨(i - lo).toNat, by omega, by omega⟩
@[simp] theorem length_irange {lo hi : Int} : (irange lo hi).length = (hi - lo).toNat := by simp [irange]
theorem appM_ok {xs : List α} {x : α} (h : xs.length < sizeLine) : appM xs x = pureM (xs ++ [x]) := by unfold appM; rw [if_pos h]
theorem extM_ok {xs ys : List α} (h : xs.length + ys.length ≤ sizeLine) : extM xs ys = pureM (xs ++ ys) := by unfold extM; rw [if_pos h]
theorem catO_ok {xs ys : List α} (h : xs.length + ys.length ≤ sizeLine) : catO xs ys = some (xs ++ ys) := by unfold catO; rw [if_pos h]
theorem mulO_ok {x y : Int} (h : x.natAbs < 2 ^ 64 ∨ y.natAbs < 2 ^ 64) : mulO x y = some (x * y) := by unfold mulO; rw [if_pos h]
theorem divO_ok {x y : Int} (h : y ≠ 0 ∧ y.natAbs < 1073741824) : divO x y = some (x.fdiv y) := by unfold divO; rw [if_pos h]
theorem modO_ok {x y : Int} (h : y ≠ 0) : modO x y = some (x.fmod y) := by unfold modO; rw [if_pos h]
theorem powO_ok {x y : Int} (h : 0 ≤ y ∧ y ≤ 1000000 ∧ x.natAbs < 2 ^ 64) : powO x y = some (x ^ y.toNat) := by unfold powO; rw [if_pos h]
theorem atI_ok {xs : List α} {i : Int} (h0 : 0 ≤ i) (h : i < xs.length) : ∃ x, atI xs i = some x ∧ xs[i.toNat]? = some x := by
  obtain ⟨j, rfl⟩ : ∃ j : Nat, i = j := ⟨i.toNat, by omega⟩
  have hj : j < xs.length := by omega
  exact ⟨xs[j], atI_nat hj, by simp [hj]⟩

/-! ### texts of data -/
structure Sh (dp wt : Nat) (d : PyData) : Prop where
  show_ : d.showable = true
  dic : d.hasDict = false
  dep : d.depth ≤ dp
  leaf : d.leavesShort 40 = true
  wgt : d.weight ≤ wt
theorem reprO_ok {wt : Nat} {d : PyData} (h : Sh 60 wt d) (hw : 42 * wt + 40 ≤ 16777216 := by decide) : reprO d = some d.shown := by
  unfold reprO
  exact if_pos ⟨h.show_, fun z => (by rw [h.dic] at z; cases z), h.dep, (by
    have h1 := PyData.shown_le 40 (by decide) d h.leaf
    have h2 : (40 + 2) * d.weight ≤ (40 + 2) * wt := Nat.mul_le_mul_left _ h.wgt
    rw [sizeLine_eq]
    omega)⟩
theorem Sh.mono {dp wt dp' wt' : Nat} {d : PyData} (h : Sh dp wt d) (h1 : dp ≤ dp') (h2 : wt ≤ wt') : Sh dp' wt' d := ⟨h.show_, h.dic, Nat.le_trans h.dep h1, h.leaf, Nat.le_trans h.wgt h2⟩
theorem log2_lt {n : Nat} (h : n < 10 ^ 12) : n.log2 < 40 := by
  by_cases h0 : n = 0
  · subst h0; decide
  · exact (Nat.log2_lt h0).mpr (Nat.lt_trans h (by decide))
theorem Sh.int {i : Int} (h : i.natAbs < 10 ^ 12) : Sh 0 40 (eInt i) := by
  have hl := log2_lt h
  refine ⟨by simp only [eInt, PyData.showable, decide_eq_true_eq]; omega, rfl, by simp [eInt, PyData.depth], by simp only [eInt, PyData.leavesShort, decide_eq_true_eq]; exact Nat.le_trans (PyData.shown_int_le h) (by decide), ?_⟩
  simp only [eInt, PyData.weight]
  split <;> omega
theorem Sh.big {i : Int} (h : i.natAbs < 10 ^ 30) : Sh 0 100 (eInt i) := by
  have hl : i.natAbs.log2 < 100 := by
    by_cases h0 : i.natAbs = 0
    · rw [h0]; decide
    · exact (Nat.log2_lt h0).mpr (Nat.lt_trans h (by decide))
  have ht := int_text_length_le10 (k := 30) (by decide) h
  refine ⟨by simp only [eInt, PyData.showable, decide_eq_true_eq]; omega, rfl, by simp [eInt, PyData.depth], ?_, ?_⟩
  · simp only [eInt, PyData.leavesShort, decide_eq_true_eq]
    show (Str.ofString (toString i)).length ≤ 40
    rw [PySem.ofString_length]; exact Nat.le_trans ht (by decide)
  · simp only [eInt, PyData.weight]
    split <;> omega
theorem Sh.bool {b : Bool} : Sh 0 0 (eBool b) := ⟨rfl, rfl, by simp [eBool, PyData.depth], rfl, by simp [eBool, PyData.weight]⟩
theorem Sh.non : Sh 0 0 .none := ⟨rfl, rfl, by simp [PyData.depth], rfl, by simp [PyData.weight]⟩
theorem Sh.all {dp wt : Nat} {e : α → PyData} : ∀ {xs : List α}, (∀ x ∈ xs, Sh dp wt (e x)) → PyData.showableAll (xs.map e) = true ∧ PyData.hasDictAll (xs.map e) = false ∧ PyData.depthAll (xs.map e) ≤ dp ∧ PyData.leavesShortAll 40 (xs.map e) = true ∧ PyData.weightAll (xs.map e) ≤ xs.length * (wt + 1)
  | [], _ => ⟨rfl, rfl, Nat.zero_le _, rfl, Nat.zero_le _⟩
  | x :: xs, h => by
    obtain ⟨h1, h2, h3, h4, h5⟩ := h x List.mem_cons_self
    obtain ⟨g1, g2, g3, g4, g5⟩ := Sh.all (xs := xs) fun y hy => h y (List.mem_cons_of_mem _ hy)
    have e2 : (xs.length + 1) * (wt + 1) = xs.length * (wt + 1) + (wt + 1) := Nat.succ_mul _ _
    refine ⟨by simp [PyData.showableAll, h1, g1], by simp [PyData.hasDictAll, h2, g2], by simp only [List.map_cons, PyData.depthAll]; omega, by simp [PyData.leavesShortAll, h4, g4], ?_⟩
    simp only [List.map_cons, PyData.weightAll, List.length_cons]
    omega
theorem Sh.lst {dp wt : Nat} {e : α → PyData} {xs : List α} (n : Nat) (hn : xs.length ≤ n) (h : ∀ x ∈ xs, Sh dp wt (e x)) : Sh (dp + 1) (n * (wt + 1)) (eL e xs) := by
  obtain ⟨g1, g2, g3, g4, g5⟩ := Sh.all h
  refine ⟨by simpa [eL, PyData.showable] using g1, by simpa [eL, PyData.hasDict] using g2, by simp only [eL, PyData.depth]; omega, by simpa [eL, PyData.leavesShort] using g4, ?_⟩
  simp only [eL, PyData.weight]
  exact Nat.le_trans g5 (Nat.mul_le_mul_right _ hn)
theorem Sh.tup {dp wt : Nat} {e : α → PyData} {xs : List α} (n : Nat) (hn : xs.length ≤ n) (h : ∀ x ∈ xs, Sh dp wt (e x)) : Sh (dp + 1) (n * (wt + 1)) (eT e xs) := by
  obtain ⟨g1, g2, g3, g4, g5⟩ := Sh.all h
  refine ⟨by simpa [eT, PyData.showable] using g1, by simpa [eT, PyData.hasDict] using g2, by simp only [eT, PyData.depth]; omega, by simpa [eT, PyData.leavesShort] using g4, ?_⟩
  simp only [eT, PyData.weight]
  exact Nat.le_trans g5 (Nat.mul_le_mul_right _ hn)
theorem Sh.opt {dp wt : Nat} {e : α → PyData} {o : Option α} (h : ∀ x, o = some x → Sh dp wt (e x)) : Sh dp wt (eO e o) := by
  cases o with
  | none => exact Sh.non.mono (Nat.zero_le _) (Nat.zero_le _)
  | some a => exact h a rfl
end
end Pz

namespace Pz
open PySem PySem.Spec PyProof.Rows L2

/-! ### enumerate(tuple) -/
set_option maxHeartbeats 1000000 in
theorem meets_enum1 {v : Value} {ob : Obj} {Hd : Heap → Prop} (Bg : Begins v ob Hd) :
    Meets (Builtin.«enumerate.__new__» ⟨[.type "enumerate", v], []⟩) (fun _ R sh => Hd sh.heap ∧
      R (.ok (.ret (.ref (sh.heap.push ob).objs.size))) { sh with heap := (sh.heap.push ob).push { cls := .type "enumerate", data := .fields #[.none, .bool false, .ref sh.heap.objs.size, rawInt 0, .none, .none] } }) :=
  .of_wp fun prog w A R sh want => by
    obtain ⟨hq, gq, dq, tq, oq⟩ := sh; obtain ⟨hd1, want⟩ := want
    have esub := sub_enumerate
    have iter1 : ∀ {A2 : Around} {E2 : Value → Shared → Prop} {Q2 : Value → Shared → Prop}, Q2 (.ref hq.objs.size) ⟨hq.push ob, gq, dq, tq, oq⟩ → wpAny (model prog w) A2 (pyIter v) Q2 E2 ⟨hq, gq, dq, tq, oq⟩ :=
      fun q2 => Bg.iter prog w _ _ ⟨hq, gq, dq, tq, oq⟩ _ hd1 q2
    wp_walk using iter1
    refine wpAny_stack_any fun stk => wpAny_pure ?_
    split
    · rename_i cq _ _ _ _ _
      cases (cq == Value.type "enumerate")
      · wp_walk using iter1
        exact ⟨_, rfl, want⟩
      · wp_walk using iter1
        exact ⟨_, rfl, want⟩
    · wp_walk using iter1
      exact ⟨_, rfl, want⟩
theorem call_enum1 {prog : Program} {w : World} {A : Around} {E : Value → Shared → Prop} {sh : Shared} {v : Value} {ob : Obj} {Hd : Heap → Prop} {Q : Value → Shared → Prop} (Bg : Begins v ob Hd) (hd1 : Hd sh.heap)
    (want : ∀ h2, IsEnum h2 (sh.heap.objs.size + 1) sh.heap.objs.size 0 .none → h2.get? sh.heap.objs.size = some ob → h2.objs.size = sh.heap.objs.size + 2 →
      (∀ b o2, sh.heap.get? b = some o2 → h2.get? b = some o2) → Q (.ref (sh.heap.objs.size + 1)) { sh with heap := h2 }) :
    wpAny (model prog w) A (call (.type "enumerate") [v]) Q E sh := by
  refine callType_new F.called_enumerate (by decide) (F.typeCall_enumerate_1 _) (F.newCall_enumerate_1 _) (fun u => F.args_object_init_2 u _) F.entry_enumerate_new
    (meets_enum1 Bg) ⟨hd1, ?_⟩
  have size1 : (sh.heap.push ob).objs.size = sh.heap.objs.size + 1 := Heap.size_push ..
  show _ ∧ _
  rw [size1]
  have is1 : IsEnum ((sh.heap.push ob).push { cls := .type "enumerate", data := .fields #[.none, .bool false, .ref sh.heap.objs.size, rawInt 0, .none, .none] }) (sh.heap.objs.size + 1) sh.heap.objs.size 0 .none := by
    have e1 := Heap.get?_push_size (sh.heap.push ob) (o := { cls := .type "enumerate", data := .fields #[.none, .bool false, .ref sh.heap.objs.size, rawInt 0, .none, .none] }) rfl
    rw [size1] at e1; exact e1
  exact ⟨⟨_, is1, rfl⟩, want _ is1 (Heap.get?_push_of_some _ (Heap.get?_push_size _ Bg.free)) (by rw [Heap.size_push, size1]) fun b o2 x => Heap.get?_push_of_some _ (Heap.get?_push_of_some _ x)⟩
/-- the tuple at a, each item in a new pair -/
def IteT (K : PySem.W.Frag) (a : Addr) : It :=
  ⟨fun i H => ∃ (ys : List V) (y : V), SqT K H a ys ∧ ys[i]? = some y, fun i H v H2 => ∃ T y, v = .ref T ∧ H T = none ∧ H2 = upd H T (.tup [.int (i : Nat), y]) ∧ ∀ ys, SqT K H a ys → ys[i]? = some y, fun i H => ∃ ys : List V, SqT K H a ys ∧ ys.length ≤ i⟩
theorem turn_enumT {P : Program} {w : World} {K : PySem.W.Frag} {elts : List Expr} {kk : Nat} {tpos : Pos} (a e it : Addr) :
    Turn P w K (.Tuple elts kk tpos) (IteT K a) [e, it] e (fun i h => (∃ old, IsEnum h e it ((i : Nat) : Int) old) ∧ h.IsTupleIter it a i ∧ e ≠ it) where
  mem := by simp
  obj := fun i hh stt b hb => by
    obtain ⟨⟨old, en⟩, ⟨o, ho, hc, hd⟩, _⟩ := stt
    rcases (show b = e ∨ b = it by simpa using hb) with z | z
    · rw [z]; exact ⟨_, en, fun v q => nomatch q⟩
    · rw [z]; exact ⟨o, ho, fun v q => by rw [hd] at q; cases q⟩
  keep := fun i h1 h2 stt k => by
    obtain ⟨⟨old, en⟩, ⟨o, ho, hc, hd⟩, hne⟩ := stt
    exact ⟨⟨old, k e (by simp) _ en⟩, ⟨o, k it (by simp) _ ho, hc, hd⟩, hne⟩
  item := by
    intro X hP hw hK hc i pins s σ H E I hf stt hg
    subst hP hw hK
    obtain ⟨⟨old, en⟩, hit, hne⟩ := stt
    obtain ⟨ys, y, hq, hy⟩ := hg
    obtain ⟨its, rv, tup, hz⟩ := I.tuple hq
    obtain ⟨u, hu, ru⟩ := rv.get hy
    have lte : e < s.heap.objs.size := Heap.lt_size en
    have lti : it < s.heap.objs.size := by obtain ⟨_, q, _⟩ := hit; exact Heap.lt_size q
    have tup' : s.heap.IsTuple a its.toArray := tup
    have nea : e ≠ a := fun z => by
      obtain ⟨o, ho, hc, _⟩ := tup'
      subst z
      have en2 : s.heap.get? e = some _ := en
      rw [ho] at en2; cases en2; simp at hc
    have nia : a ≠ it := fun z => by
      obtain ⟨o, ho, hc, _⟩ := tup'
      obtain ⟨o2, ho2, hc2, _⟩ := hit
      subst z
      rw [ho] at ho2; cases ho2; rw [hc] at hc2; simp at hc2
    have D := Draws.tuple (prog := X.prog) (w := X.w) (A := X.A.in1) (I.ok.hd hc) it a nia its.toArray
    have hlt : i < its.toArray.size := by have := (List.getElem?_eq_some_iff.mp hu).1; simpa using this
    refine wpAny_pyNext_enum_itemD D en ⟨hit, tup'⟩ hlt hne (by simp [hne, nea]) fun x h2 tk hx ho hst2 hT hsz hk => ?_
    obtain rfl : u = x := by
      have hx' : its.toArray[i]? = some x := hx
      rw [List.getElem?_toArray, hu] at hx'; exact Option.some.inj hx'
    refine ⟨_, rfl, wpAny_letOwnedTupleGo_enum (s := { s with heap := h2, toks := tk + 1 }) ho fun h3 en3 sb => ?_⟩
    have hT3 : h3.get? s.heap.objs.size = some { cls := .type "tuple", data := .seq #[.int i tk, u] } := (sb.2 _ (Nat.ne_of_gt lte)).trans hT
    have fresh : ObjOk X.prog X.w (upd H s.heap.objs.size (.tup [.int (i : Nat), y])) h3 s.heap.objs.size (.tup [.int (i : Nat), y]) :=
      ⟨by show 2 ≤ sizeLine; decide, [.int i tk, u], .cons ⟨_, rfl⟩ (.cons ru .nil), ⟨_, hT3, rfl, _, rfl⟩⟩
    have I3 : Inv X pins σ (upd H s.heap.objs.size (.tup [.int (i : Nat), y])) { s with heap := h3, toks := tk + 1 } :=
      I.turnedNew (ch := [e, it]) (fun b ob nb q => (sb.2 b (fun z => nb (by simp [z]))).trans (hk b ob (fun z => nb (by simp [z])) (fun z => nb (by simp [z])) q)) hf (Nat.le_refl _) fresh
    refine ⟨.ref s.heap.objs.size, _, I3, rfl, ⟨_, y, rfl, I.hok.fresh (Nat.le_refl _), rfl, fun zs hzs => by rw [I.tuple_inj hzs hq]; exact hy⟩, ⟨⟨u, ?_⟩, ?_, hne⟩, fun b hb => ?_⟩
    · rw [show ((i + 1 : Nat) : Int) = (i : Int) + 1 by omega]; exact en3
    · obtain ⟨⟨o, h1, h2', h3'⟩, _⟩ := hst2
      exact ⟨o, (sb.2 it (Ne.symm hne)).trans h1, h2', h3'⟩
    · have ltb : b < s.heap.objs.size := by
        rcases (show b = e ∨ b = it by simpa using hb) with z | z
        · rw [z]; exact lte
        · rw [z]; exact lti
      rw [upd_ne (Nat.ne_of_lt ltb)]
      exact (hf b hb).1
  done := by
    intro X hP hw hK hc i pins s σ H E I hf stt hg
    subst hP hw hK
    obtain ⟨⟨old, en⟩, hit, hne⟩ := stt
    obtain ⟨ys, hq, hy⟩ := hg
    obtain ⟨its, rv, tup, hz⟩ := I.tuple hq
    have tup' : s.heap.IsTuple a its.toArray := tup
    obtain ⟨f0, f1, f2, f3, f4, f5⟩ := hf it (by simp)
    have hlen := rv.length
    have D : Draws X.prog X.w X.A.in1 it [it, a] i (fun _ _ => True) (fun j h => j = i ∧ h.IsTupleIter it a i ∧ h.IsTuple a its.toArray) :=
      { live := fun _ _ q => let ⟨o, ho, _⟩ := q.2.1; ⟨o, ho⟩
        frame := fun _ _ _ q hk => ⟨q.1, q.2.1.at fun o e => hk it (by simp) o e, q.2.2.at fun o e => hk a (by simp) o e⟩
        item := fun j s Q E hj q _ => absurd q.1 (Nat.ne_of_lt hj)
        done := fun s Q E q hE => wpAny_nextOf_tuple_end (I.ok.hd hc) q.2.1 q.2.2 (by simp; omega) hE }
    exact wpAny_pyNext_enum_endD D en ⟨rfl, hit, tup'⟩ fun h2 eb => ⟨rfl, I.turned (t' := s.toks) (fun b o nb q => eb b o nb q) f0 f1 f3 f4 f5⟩
  self := fun A i s Q E stt want => let ⟨⟨_, en⟩, _⟩ := stt; wpAny_pyIter_enum en want
def iEnumT (K : PySem.W.Frag) (ta : TA) : TI := fun σ H R => ta σ H fun vs H1 => ∃ a ys, vs = [.ref a] ∧ SqT K H1 a ys ∧ R (IteT K a) H1
theorem pi_enumT {X : Cx} {e : Expr} {ta : TA} {p pos tpos : Pos} {elts : List Expr} {kk : Nat} (hg : Gl X "enumerate") (hm : X.mg "enumerate" = none) (ha : PA X [e] ta) (hs : starEach [e] X.env = [(false, eval e X.env)] := by rfl) :
    PI X (.Tuple elts kk tpos) (.Call (.Name "enumerate" p) [e] [] pos) (iEnumT X.K ta) := by
  refine ⟨fun pins s σ H R I want => ?_⟩
  refine Call_ (ld_blt I hg hm boot_enumerate (PyProof.Rows.callWith_type1 (thn (ha.run pos pins s σ H _ I want) fun us s1 ⟨vs, H1, I1, r1, q1⟩ => ?_) hs rfl))
  obtain ⟨a, ys, ex, hq, q⟩ := q1
  subst ex
  cases r1 with
  | cons r rr =>
    cases rr
    cases r
    obtain ⟨its, rv, tup, hz⟩ := I1.tuple hq
    refine call_enum1 (begins_tuple a its.toArray) (show s1.heap.IsTuple a its.toArray from tup) fun h2 en hit hsz hk => wpAny_pyIter_enum en ?_
    have I2 : Inv X pins σ H1 { s1 with heap := h2 } := I1.kept (t' := s1.toks) hk
    refine ⟨s1.heap.objs.size + 1, [s1.heap.objs.size + 1, s1.heap.objs.size], _, _, H1, rfl, I2, turn_enumT a (s1.heap.objs.size + 1) s1.heap.objs.size, ⟨⟨.none, en⟩, ⟨_, hit, rfl, rfl⟩, Nat.succ_ne_self _⟩, fun b hb => ?_, q⟩
    have le1 : s1.heap.objs.size ≤ b := by
      rcases (show b = s1.heap.objs.size + 1 ∨ b = s1.heap.objs.size by simpa using hb) with z | z
      · rw [z]; exact Nat.le_add_right _ _
      · rw [z]; exact Nat.le_refl _
    exact I1.fpOk le1 (I1.hok.fresh le1)
end Pz

namespace Pz
open PySem PySem.Spec PyProof.Rows L2

section
variable {α β γ δ κ ρ ι : Type} {ea : α → PyData} {eb : β → PyData} {ec : γ → PyData} {er : ρ → PyData} {ei : ι → PyData} {X : Cx} {R : Res} {Γ Γ' : List Slot} {e a b c : Expr} {st : Stmt} {rest A B body : List Stmt} {pos : Pos} {out : κ → OutD}
/-! ### enumerate, zip -/
def enumF : Nat → List α → List (Int × α × Unit)
  | _, [] => []
  | k, x :: xs => ((k : Int), x, ()) :: enumF (k + 1) xs
def enumL (xs : List α) : List (Int × α × Unit) := enumF 0 xs
theorem enumF_get : ∀ (k : Nat) (xs : List α) (i : Nat), (enumF k xs)[i]? = xs[i]?.map fun x => (((k + i : Nat) : Int), x, ())
  | _, [], _ => by simp [enumF]
  | k, x :: xs, 0 => by simp [enumF]
  | k, x :: xs, i + 1 => by
    have := enumF_get (k + 1) xs i
    simp only [enumF, List.getElem?_cons_succ, this]
    rw [show k + 1 + i = k + (i + 1) by omega]
theorem enumF_length : ∀ (k : Nat) (xs : List α), (enumF k xs).length = xs.length
  | _, [] => rfl
  | k, x :: xs => by simp [enumF, enumF_length (k + 1) xs]
@[simp] theorem enumL_length (xs : List α) : (enumL xs).length = xs.length := enumF_length 0 xs
theorem enumL_get (xs : List α) (i : Nat) : (enumL xs)[i]? = xs[i]?.map fun x => ((i : Int), x, ()) := by
  unfold enumL; rw [enumF_get]; simp
def zipL (xs : List α) (ys : List β) : List (α × β × Unit) := List.zipWith (fun x y => (x, y, ())) xs ys
theorem pair_rp {A' : Av} {H' : Hp} {T : Addr} {v w : V} {d1 d2 : PyData} (n : ¬ A' T) (h1 : Rp A' H' v d1) (h2 : Rp A' H' w d2) (hT : H' T = some (.tup [v, w])) : Rp A' H' (.ref T) (.tuple [d1, d2]) := .tup n hT (.cons h1 (.cons h2 .nil))
theorem itok_enumL {K : PySem.W.Frag} {A : Av} {H1 : Hp} {p : Addr} {vs : List V} {xs : List α} (na : ¬ A p) (ha : H1 p = some (.lst vs)) (r : RpAll A H1 vs (xs.map ea)) : ItOk (Ite K p) A H1 ((enumL xs).map (eP (eC eInt (eC ea eU)))) := fun H i k => by
  have hH := k _ _ na ha
  have hl := r.length
  rw [List.length_map] at hl
  refine ⟨fun h => ⟨vs, SqL.of hH, by simpa [hl] using h⟩, fun d hd => ?_⟩
  rw [List.getElem?_map, enumL_get] at hd
  cases hx : xs[i]? with
  | none => rw [hx] at hd; cases hd
  | some x =>
    rw [hx] at hd
    obtain ⟨v, hv, rv⟩ := r.get (show (xs.map ea)[i]? = some (ea x) by rw [List.getElem?_map, hx]; rfl)
    refine ⟨⟨vs, v, SqL.of hH, hv⟩, fun w H' y => ?_⟩
    obtain ⟨T, y', rfl, nT, rfl, hy⟩ := y
    have e1 := hy vs (SqL.of hH)
    rw [hv] at e1
    obtain rfl : v = y' := Option.some.inj e1
    refine ⟨same_new nT, fun A' h1 h2 => ?_⟩
    have hd' : PyData.tuple [eInt (i : Int), ea x] = d := Option.some.inj hd
    subst hd'
    exact pair_rp (fun z => h2 T z nT) (.int _) ((Rp.move (fun b o nb e => ⟨h1 b o nb e, k b o nb e⟩) _ _ rv).keep (Keep.of_same (same_new nT))) upd_same
theorem itok_enumT {K : PySem.W.Frag} {A : Av} {H1 : Hp} {p : Addr} {vs : List V} {xs : List α} (na : ¬ A p) (ha : H1 p = some (.tup vs)) (r : RpAll A H1 vs (xs.map ea)) : ItOk (IteT K p) A H1 ((enumL xs).map (eP (eC eInt (eC ea eU)))) := fun H i k => by
  have hH := k _ _ na ha
  have hl := r.length
  rw [List.length_map] at hl
  refine ⟨fun h => ⟨vs, SqT.of hH, by simpa [hl] using h⟩, fun d hd => ?_⟩
  rw [List.getElem?_map, enumL_get] at hd
  cases hx : xs[i]? with
  | none => rw [hx] at hd; cases hd
  | some x =>
    rw [hx] at hd
    obtain ⟨v, hv, rv⟩ := r.get (show (xs.map ea)[i]? = some (ea x) by rw [List.getElem?_map, hx]; rfl)
    refine ⟨⟨vs, v, SqT.of hH, hv⟩, fun w H' y => ?_⟩
    obtain ⟨T, y', rfl, nT, rfl, hy⟩ := y
    have e1 := hy vs (SqT.of hH)
    rw [hv] at e1
    obtain rfl : v = y' := Option.some.inj e1
    refine ⟨same_new nT, fun A' h1 h2 => ?_⟩
    have hd' : PyData.tuple [eInt (i : Int), ea x] = d := Option.some.inj hd
    subst hd'
    exact pair_rp (fun z => h2 T z nT) (.int _) ((Rp.move (fun b o nb e => ⟨h1 b o nb e, k b o nb e⟩) _ _ rv).keep (Keep.of_same (same_new nT))) upd_same
theorem i_enumL {elts : List Expr} {k : Nat} {tpos p : Pos} {m : M (List α)} (hm : X.mg "enumerate" = none) (h : EJ X R Γ e (eL ea) m) (hg : Gl X "enumerate" := by rfl) (hs : starEach [e] X.env = [(false, eval e X.env)] := by rfl) :
    IJ X R Γ (.Call (.Name "enumerate" p) [e] [] pos) (.Tuple elts k tpos) (eP (eC eInt (eC ea eU))) (bindM m fun x => pureM (enumL x)) := by
  refine PI.weak (PI.fits (pi_enum hg hm (pa_cons h pa_nil hs) hs)) fun σ H Rr ⟨O, H0, ow, st, z, st', rel, ok, e, q⟩ => ?_
  obtain ⟨x, s1, e1, e2⟩ := bind_some e
  obtain ⟨rfl, rfl⟩ := pure_some e2
  refine ⟨O, H0, ow, st, x, s1, rel, ok, e1, fun v H1 k1 o1 rp => ?_⟩
  cases rp with
  | @lst p0 vs _ na ha ra =>
    exact ⟨p0, vs, rfl, SqL.of ha, fun fit => q _ H1 k1 o1 (by have := fit p0 vs (.inl ha); rw [ra.length, List.length_map] at this; rw [enumL_length]; exact this) (itok_enumL na ha ra)⟩
theorem i_enumT {elts : List Expr} {k : Nat} {tpos p : Pos} {m : M (List α)} (hm : X.mg "enumerate" = none) (h : EJ X R Γ e (eT ea) m) (hg : Gl X "enumerate" := by rfl) (hs : starEach [e] X.env = [(false, eval e X.env)] := by rfl) :
    IJ X R Γ (.Call (.Name "enumerate" p) [e] [] pos) (.Tuple elts k tpos) (eP (eC eInt (eC ea eU))) (bindM m fun x => pureM (enumL x)) := by
  refine PI.weak (PI.fits (pi_enumT hg hm (pa_cons h pa_nil hs) hs)) fun σ H Rr ⟨O, H0, ow, st, z, st', rel, ok, e, q⟩ => ?_
  obtain ⟨x, s1, e1, e2⟩ := bind_some e
  obtain ⟨rfl, rfl⟩ := pure_some e2
  refine ⟨O, H0, ow, st, x, s1, rel, ok, e1, fun v H1 k1 o1 rp => ?_⟩
  cases rp with
  | @tup p0 vs _ na ha ra =>
    exact ⟨p0, vs, rfl, SqT.of ha, fun fit => q _ H1 k1 o1 (by have := fit p0 vs (.inr ha); rw [ra.length, List.length_map] at this; rw [enumL_length]; exact this) (itok_enumT na ha ra)⟩

/-! ### data that are seen to be of a type -/
theorem e_narrow {m : M α} (f : α → Option γ) (h : EJ X R Γ e ea m) (hf : ∀ x y, f x = some y → ea x = ec y) : EJ X R Γ e ec (bindM m fun x => optM (f x)) := by
  refine PE.weak h fun σ H Q ⟨O, H0, ow, st, z, st', rel, ok, e, q⟩ => ?_
  obtain ⟨x, s1, e1, e2⟩ := bind_some e
  obtain ⟨e3, rfl⟩ := optM_inv e2
  exact ⟨O, H0, ow, st, x, s1, rel, ok, e1, fun v H1 k1 o1 rp => q v H1 k1 o1 (by rw [← hf _ _ e3]; exact rp)⟩
def asInt : PyData → Option Int
  | .int i => some i
  | _ => none
def asBool : PyData → Option Bool
  | .bool b => some b
  | _ => none
def asStr : PyData → Option Str
  | .str x => some x
  | _ => none
def asTup : PyData → Option (List PyData)
  | .tuple ds => some ds
  | _ => none
def asLst : PyData → Option (List PyData)
  | .list ds => some ds
  | _ => none
theorem map_eD (ds : List PyData) : ds.map eD = ds := List.map_id ds
theorem e_dInt {m : M PyData} (h : EJ X R Γ e eD m) : EJ X R Γ e eInt (bindM m fun x => optM (asInt x)) := e_narrow asInt h fun x y q => by cases x <;> cases q <;> rfl
theorem e_dBool {m : M PyData} (h : EJ X R Γ e eD m) : EJ X R Γ e eBool (bindM m fun x => optM (asBool x)) := e_narrow asBool h fun x y q => by cases x <;> cases q <;> rfl
theorem e_dStr {m : M PyData} (h : EJ X R Γ e eD m) : EJ X R Γ e eStr (bindM m fun x => optM (asStr x)) := e_narrow asStr h fun x y q => by cases x <;> cases q <;> rfl
theorem e_dTup {m : M PyData} (h : EJ X R Γ e eD m) : EJ X R Γ e (eT eD) (bindM m fun x => optM (asTup x)) := e_narrow asTup h fun x y q => by cases x <;> cases q; simp [eT, eD, map_eD]
theorem e_dLst {m : M PyData} (h : EJ X R Γ e eD m) : EJ X R Γ e (eL eD) (bindM m fun x => optM (asLst x)) := e_narrow asLst h fun x y q => by cases x <;> cases q; simp [eL, eD, map_eD]
/-- t[j] of mixed data, all of one place's type -/
theorem e_dTupAs {m : M (List PyData)} (f : PyData → Option γ) (hf : ∀ x y, f x = some y → x = ec y) (h : EJ X R Γ e (eT eD) m) : EJ X R Γ e (eT ec) (bindM m fun xs => optM (xs.mapM f)) := e_narrow (fun xs => xs.mapM f) h fun xs ys q => by
  have : ∀ (xs : List PyData) (ys : List γ), xs.mapM f = some ys → xs.map eD = ys.map ec := by
    intro xs
    induction xs with
    | nil => intro ys q; simp at q; subst q; rfl
    | cons x xs ih =>
      intro ys q
      rw [List.mapM_cons] at q
      obtain ⟨y, e1, q⟩ := Option.bind_eq_some_iff.mp q
      obtain ⟨zs, e2, q⟩ := Option.bind_eq_some_iff.mp q
      cases q
      rw [List.map_cons, List.map_cons, ih _ e2, ← hf _ _ e1]
      rfl
  show PyData.tuple _ = PyData.tuple _
  rw [this xs ys q]

/-! ### isinstance -/
def tyN : PyData → String
  | .none => "NoneType"
  | .bool _ => "bool"
  | .int _ => "int"
  | .str _ => "str"
  | .list _ => "list"
  | .tuple _ => "tuple"
  | .dict _ => "dict"
def isTy (n : String) (d : PyData) : Bool := tyN d == n || (n == "int" && tyN d == "bool")
theorem rp_ty {K : PySem.W.Frag} {A : Av} {H : Hp} {v : V} {d : PyData} (r : Rp A H v d) : TyX K H v (.type (tyN d)) := by
  cases r with
  | non => exact .base .non
  | bl b => exact .base (.bl b)
  | int i => exact .base (.int i)
  | str x => exact .base (.str x)
  | lst _ h _ => exact .base (.lst h)
  | tup _ h _ => exact .base (.tup h)
  | dic _ h => exact .base (.dK h)
theorem kit_int {K : PySem.W.Frag} (d : PyData) : PySem.W.kitOne K (.type (tyN d)) (.type "int") = some (isTy "int" d) := by cases d <;> rfl
theorem kit_bool {K : PySem.W.Frag} (d : PyData) : PySem.W.kitOne K (.type (tyN d)) (.type "bool") = some (isTy "bool" d) := by cases d <;> rfl
theorem kit_str {K : PySem.W.Frag} (d : PyData) : PySem.W.kitOne K (.type (tyN d)) (.type "str") = some (isTy "str" d) := by cases d <;> rfl
theorem kit_tuple {K : PySem.W.Frag} (d : PyData) : PySem.W.kitOne K (.type (tyN d)) (.type "tuple") = some (isTy "tuple" d) := by cases d <;> rfl
theorem kit_list {K : PySem.W.Frag} (d : PyData) : PySem.W.kitOne K (.type (tyN d)) (.type "list") = some (isTy "list" d) := by cases d <;> rfl
theorem kit_dict {K : PySem.W.Frag} (d : PyData) : PySem.W.kitOne K (.type (tyN d)) (.type "dict") = some (isTy "dict" d) := by cases d <;> rfl
theorem e_isi {x : Str} {p1 p2 : Pos} {n : String} {m : M α} (hk : ∀ (K : PySem.W.Frag) d, PySem.W.kitOne K (.type (tyN d)) (.type n) = some (isTy n d)) (hm : X.mg "isinstance" = none) (hmT : X.mg x = none) (hvT : bootBuiltins x = some (.type n)) (ha : EJ X R Γ a ea m)
    (hg : Gl X "isinstance" := by rfl) (hgT : Gl X x := by rfl) (hn : x ≠ "__name__" := by decide) (hdb : (x == ("__debug__" : Str)) = false := by decide)
    (hs1 : starEach [a, .Name x p2] X.env = (false, eval a X.env) :: starEach [.Name x p2] X.env := by rfl) (hs2 : starEach [.Name x p2] X.env = (false, eval (.Name x p2) X.env) :: starEach [] X.env := by rfl) :
    EJ X R Γ (.Call (.Name "isinstance" p1) [a, .Name x p2] [] pos) eBool (bindM m fun y => pureM (isTy n (ea y))) := by
  refine PE.weak (pe_callB (x := "isinstance") call_isi hg hm bt_isinstance (pa_cons ha (pa_cons (pe_bltn (v := .ty n) hgT hmT hvT rfl hn hdb) pa_nil hs2) hs1) (by decide) (by decide) hs1 (by rw [hs2]; rfl)) fun σ H Q ⟨O, H0, ow, st, z, st', rel, ok, e, q⟩ => ?_
  obtain ⟨y, s1, e1, e2⟩ := bind_some e
  obtain ⟨rfl, rfl⟩ := pure_some e2
  refine ⟨O, H0, ow, st, y, s1, rel, ok, e1, fun v H1 k1 o1 rp => ?_⟩
  exact ⟨v, .ty n, _, _, _, rfl, .ty n, rp_ty rp, hk _ _, q _ H1 k1 o1 (.bl _)⟩

/-! ### in -/
def rInP : R2 := fun x y H Q => ∃ A d ds, Rp A H x d ∧ (Rp A H y (.list ds) ∨ Rp A H y (.tuple ds)) ∧ PyData.plainAll ds = true ∧ d.plain = true ∧ d.depth ≤ 60 ∧ Q (.bl (ds.any fun z => PyData.eqv z d)) H
def rNinP : R2 := fun x y H Q => ∃ A d ds, Rp A H x d ∧ (Rp A H y (.list ds) ∨ Rp A H y (.tuple ds)) ∧ PyData.plainAll ds = true ∧ d.plain = true ∧ d.depth ≤ 60 ∧ Q (.bl (!ds.any fun z => PyData.eqv z d)) H
theorem op_inP (hu : X.A.units + 64 < cLine) : OpR X (compareOp .In) rInP := fun pins s σ H x y v u Q I rx ry h => by
  obtain ⟨A, d, ds, hd, hc, p1, p2, dp, q⟩ := h
  obtain ⟨as, r1, _⟩ := Rp.reads I d x v hd rx
  rcases hc with hc | hc
  · obtain ⟨bs, r2, _⟩ := Rp.reads I _ y u hc ry
    exact SeqAt.in_list_data r2 r1 p1 p2 (by omega) ⟨.bl _, H, I, rfl, q⟩
  · obtain ⟨bs, r2, _⟩ := Rp.reads I _ y u hc ry
    exact SeqAt.in_tuple_data r2 r1 p1 p2 (by omega) ⟨.bl _, H, I, rfl, q⟩
theorem op_ninP (hu : X.A.units + 64 < cLine) : OpR X (compareOp .NotIn) rNinP := fun pins s σ H x y v u Q I rx ry h => by
  obtain ⟨A, d, ds, hd, hc, p1, p2, dp, q⟩ := h
  obtain ⟨as, r1, _⟩ := Rp.reads I d x v hd rx
  rcases hc with hc | hc
  · obtain ⟨bs, r2, _⟩ := Rp.reads I _ y u hc ry
    exact SeqAt.notIn_list_data r2 r1 p1 p2 (by omega) ⟨.bl _, H, I, rfl, q⟩
  · obtain ⟨bs, r2, _⟩ := Rp.reads I _ y u hc ry
    exact SeqAt.notIn_tuple_data r2 r1 p1 p2 (by omega) ⟨.bl _, H, I, rfl, q⟩
theorem any_mem [DecidableEq α] {n : Nat} (h : Dc n ea) (x : α) (xs : List α) : ((xs.map ea).any fun z => PyData.eqv z (ea x)) = decide (x ∈ xs) := by
  rw [List.any_map, Bool.eq_iff_iff, List.any_eq_true, decide_eq_true_eq]
  constructor
  · rintro ⟨y, hy, e⟩
    have := (h.eqv y x).symm.trans e
    rw [decide_eq_true_eq] at this
    rw [← this]; exact hy
  · exact fun hx => ⟨x, hx, by have := h.eqv x x; rw [decide_eq_true rfl] at this; exact this⟩
theorem v_inL {n : Nat} [DecidableEq α] (h : Dc n ea) (hn : n ≤ 60 := by decide) : VOp rInP ea (eL ea) eBool (fun x xs => some (decide (x ∈ xs))) := fun A H x xs vx vy Q z ad r1 r2 e q => by
  cases e
  refine ⟨A, _, _, r1, .inl r2, h.plainAll _, h.plain _, Nat.le_trans (h.depth _) hn, ?_⟩
  rw [any_mem h]
  exact q _ H (Same.refl H) (.bl _)
theorem v_inT {n : Nat} [DecidableEq α] (h : Dc n ea) (hn : n ≤ 60 := by decide) : VOp rInP ea (eT ea) eBool (fun x xs => some (decide (x ∈ xs))) := fun A H x xs vx vy Q z ad r1 r2 e q => by
  cases e
  refine ⟨A, _, _, r1, .inr r2, h.plainAll _, h.plain _, Nat.le_trans (h.depth _) hn, ?_⟩
  rw [any_mem h]
  exact q _ H (Same.refl H) (.bl _)
theorem v_ninL {n : Nat} [DecidableEq α] (h : Dc n ea) (hn : n ≤ 60 := by decide) : VOp rNinP ea (eL ea) eBool (fun x xs => some (!decide (x ∈ xs))) := fun A H x xs vx vy Q z ad r1 r2 e q => by
  cases e
  refine ⟨A, _, _, r1, .inl r2, h.plainAll _, h.plain _, Nat.le_trans (h.depth _) hn, ?_⟩
  rw [any_mem h]
  exact q _ H (Same.refl H) (.bl _)
theorem v_ninT {n : Nat} [DecidableEq α] (h : Dc n ea) (hn : n ≤ 60 := by decide) : VOp rNinP ea (eT ea) eBool (fun x xs => some (!decide (x ∈ xs))) := fun A H x xs vx vy Q z ad r1 r2 e q => by
  cases e
  refine ⟨A, _, _, r1, .inr r2, h.plainAll _, h.plain _, Nat.le_trans (h.depth _) hn, ?_⟩
  rw [any_mem h]
  exact q _ H (Same.refl H) (.bl _)
def inD (d c : PyData) : Option Bool := match c with
  | .list ds | .tuple ds => if PyData.plainAll ds = true ∧ d.plain = true ∧ d.depth ≤ 60 then some (ds.any fun z => PyData.eqv z d) else none
  | _ => none
theorem inD_some {d c : PyData} {b : Bool} (h : inD d c = some b) : ∃ ds, (c = .list ds ∨ c = .tuple ds) ∧ PyData.plainAll ds = true ∧ d.plain = true ∧ d.depth ≤ 60 ∧ (ds.any fun z => PyData.eqv z d) = b := by
  cases c with
  | list ds => obtain ⟨⟨h1, h2, h3⟩, h4⟩ := oif (show (if PyData.plainAll ds = true ∧ d.plain = true ∧ d.depth ≤ 60 then some (ds.any fun z => PyData.eqv z d) else none) = some b from h); exact ⟨ds, .inl rfl, h1, h2, h3, h4⟩
  | tuple ds => obtain ⟨⟨h1, h2, h3⟩, h4⟩ := oif (show (if PyData.plainAll ds = true ∧ d.plain = true ∧ d.depth ≤ 60 then some (ds.any fun z => PyData.eqv z d) else none) = some b from h); exact ⟨ds, .inr rfl, h1, h2, h3, h4⟩
  | _ => cases h
theorem v_inD : VOp rInP ea eb eBool (fun x xs => inD (ea x) (eb xs)) := fun A H x xs vx vy Q z ad r1 r2 e q => by
  obtain ⟨ds, hc, h1, h2, h3, rfl⟩ := inD_some e
  refine ⟨A, _, ds, r1, ?_, h1, h2, h3, q _ H (Same.refl H) (.bl _)⟩
  rcases hc with hc | hc
  · rw [hc] at r2; exact .inl r2
  · rw [hc] at r2; exact .inr r2
theorem v_ninD : VOp rNinP ea eb eBool (fun x xs => (inD (ea x) (eb xs)).map (!·)) := fun A H x xs vx vy Q z ad r1 r2 e q => by
  obtain ⟨b, e1, rfl⟩ := Option.map_eq_some_iff.mp e
  obtain ⟨ds, hc, h1, h2, h3, rfl⟩ := inD_some e1
  refine ⟨A, _, ds, r1, ?_, h1, h2, h3, q _ H (Same.refl H) (.bl _)⟩
  rcases hc with hc | hc
  · rw [hc] at r2; exact .inl r2
  · rw [hc] at r2; exact .inr r2
theorem e_inL {n k : Nat} [DecidableEq α] {ma : M α} {mb : M (List α)} (hr : Room k X.A) (h : Dc n ea) (ha : EJ X R Γ a ea ma) (hb : EJ X R Γ b (eL ea) mb) (hn : n ≤ 60 := by decide) (hmk : behindInMarks .In b = false := by rfl) : EJ X R Γ (.Compare a [.In] [b] pos) eBool (bindM ma fun x => bindM mb fun y => pureM (decide (x ∈ y))) := e_cmp (op_inP hr.units) (v_inL h hn) ha hb hmk
theorem e_inT {n k : Nat} [DecidableEq α] {ma : M α} {mb : M (List α)} (hr : Room k X.A) (h : Dc n ea) (ha : EJ X R Γ a ea ma) (hb : EJ X R Γ b (eT ea) mb) (hn : n ≤ 60 := by decide) (hmk : behindInMarks .In b = false := by rfl) : EJ X R Γ (.Compare a [.In] [b] pos) eBool (bindM ma fun x => bindM mb fun y => pureM (decide (x ∈ y))) := e_cmp (op_inP hr.units) (v_inT h hn) ha hb hmk
theorem e_ninL {n k : Nat} [DecidableEq α] {ma : M α} {mb : M (List α)} (hr : Room k X.A) (h : Dc n ea) (ha : EJ X R Γ a ea ma) (hb : EJ X R Γ b (eL ea) mb) (hn : n ≤ 60 := by decide) (hmk : behindInMarks .NotIn b = false := by rfl) : EJ X R Γ (.Compare a [.NotIn] [b] pos) eBool (bindM ma fun x => bindM mb fun y => pureM (!decide (x ∈ y))) := e_cmp (op_ninP hr.units) (v_ninL h hn) ha hb hmk
theorem e_ninT {n k : Nat} [DecidableEq α] {ma : M α} {mb : M (List α)} (hr : Room k X.A) (h : Dc n ea) (ha : EJ X R Γ a ea ma) (hb : EJ X R Γ b (eT ea) mb) (hn : n ≤ 60 := by decide) (hmk : behindInMarks .NotIn b = false := by rfl) : EJ X R Γ (.Compare a [.NotIn] [b] pos) eBool (bindM ma fun x => bindM mb fun y => pureM (!decide (x ∈ y))) := e_cmp (op_ninP hr.units) (v_ninT h hn) ha hb hmk
theorem t_inL {n k : Nat} [DecidableEq α] {ma : M α} {mb : M (List α)} (hr : Room k X.A) (h : Dc n ea) (ha : EJ X R Γ a ea ma) (hb : EJ X R Γ b (eL ea) mb) (hn : n ≤ 60 := by decide) (hmk : behindInMarks .In b = false := by rfl) : TJ X R Γ (.Compare a [.In] [b] pos) (bindM ma fun x => bindM mb fun y => pureM (decide (x ∈ y))) := t_cmp (op_inP hr.units) (v_inL h hn) ha hb hmk
theorem t_inT {n k : Nat} [DecidableEq α] {ma : M α} {mb : M (List α)} (hr : Room k X.A) (h : Dc n ea) (ha : EJ X R Γ a ea ma) (hb : EJ X R Γ b (eT ea) mb) (hn : n ≤ 60 := by decide) (hmk : behindInMarks .In b = false := by rfl) : TJ X R Γ (.Compare a [.In] [b] pos) (bindM ma fun x => bindM mb fun y => pureM (decide (x ∈ y))) := t_cmp (op_inP hr.units) (v_inT h hn) ha hb hmk
theorem t_ninL {n k : Nat} [DecidableEq α] {ma : M α} {mb : M (List α)} (hr : Room k X.A) (h : Dc n ea) (ha : EJ X R Γ a ea ma) (hb : EJ X R Γ b (eL ea) mb) (hn : n ≤ 60 := by decide) (hmk : behindInMarks .NotIn b = false := by rfl) : TJ X R Γ (.Compare a [.NotIn] [b] pos) (bindM ma fun x => bindM mb fun y => pureM (!decide (x ∈ y))) := t_cmp (op_ninP hr.units) (v_ninL h hn) ha hb hmk
theorem t_ninT {n k : Nat} [DecidableEq α] {ma : M α} {mb : M (List α)} (hr : Room k X.A) (h : Dc n ea) (ha : EJ X R Γ a ea ma) (hb : EJ X R Γ b (eT ea) mb) (hn : n ≤ 60 := by decide) (hmk : behindInMarks .NotIn b = false := by rfl) : TJ X R Γ (.Compare a [.NotIn] [b] pos) (bindM ma fun x => bindM mb fun y => pureM (!decide (x ∈ y))) := t_cmp (op_ninP hr.units) (v_ninT h hn) ha hb hmk
theorem e_inD {k : Nat} {ma : M α} {mb : M β} (hr : Room k X.A) (ha : EJ X R Γ a ea ma) (hb : EJ X R Γ b eb mb) (hmk : behindInMarks .In b = false := by rfl) : EJ X R Γ (.Compare a [.In] [b] pos) eBool (bindM ma fun x => bindM mb fun y => optM (inD (ea x) (eb y))) := e_cmp (op_inP hr.units) v_inD ha hb hmk
theorem e_ninD {k : Nat} {ma : M α} {mb : M β} (hr : Room k X.A) (ha : EJ X R Γ a ea ma) (hb : EJ X R Γ b eb mb) (hmk : behindInMarks .NotIn b = false := by rfl) : EJ X R Γ (.Compare a [.NotIn] [b] pos) eBool (bindM ma fun x => bindM mb fun y => optM ((inD (ea x) (eb y)).map (!·))) := e_cmp (op_ninP hr.units) v_ninD ha hb hmk
theorem t_inD {k : Nat} {ma : M α} {mb : M β} (hr : Room k X.A) (ha : EJ X R Γ a ea ma) (hb : EJ X R Γ b eb mb) (hmk : behindInMarks .In b = false := by rfl) : TJ X R Γ (.Compare a [.In] [b] pos) (bindM ma fun x => bindM mb fun y => optM (inD (ea x) (eb y))) := t_cmp (op_inP hr.units) v_inD ha hb hmk
theorem t_ninD {k : Nat} {ma : M α} {mb : M β} (hr : Room k X.A) (ha : EJ X R Γ a ea ma) (hb : EJ X R Γ b eb mb) (hmk : behindInMarks .NotIn b = false := by rfl) : TJ X R Γ (.Compare a [.NotIn] [b] pos) (bindM ma fun x => bindM mb fun y => optM ((inD (ea x) (eb y)).map (!·))) := t_cmp (op_ninP hr.units) v_ninD ha hb hmk

/-! ### is None, of data -/
def isNon : PyData → Bool
  | .none => true
  | _ => false
theorem v_isD : VOp (fun x y H Q => y = .non ∧ Q (.bl (decide (x = .non))) H) eD eNon eBool (fun x _ => some (isNon x)) := fun A H x y vx vy Q z ad r1 r2 e q => by
  cases e
  cases r2
  refine ⟨rfl, ?_⟩
  have : decide (vx = .non) = isNon x := by
    have := rp_non r1
    cases x <;> simp [this, isNon, eD]
  rw [this]
  exact q _ H (Same.refl H) (.bl _)
theorem v_notD : VOp (fun x y H Q => y = .non ∧ Q (.bl (!decide (x = .non))) H) eD eNon eBool (fun x _ => some (!isNon x)) := fun A H x y vx vy Q z ad r1 r2 e q => by
  cases e
  cases r2
  refine ⟨rfl, ?_⟩
  have : decide (vx = .non) = isNon x := by
    have := rp_non r1
    cases x <;> simp [this, isNon, eD]
  rw [this]
  exact q _ H (Same.refl H) (.bl _)
theorem e_isNd {m : M PyData} {j p} (ha : EJ X R Γ a eD m) : EJ X R Γ (.Compare a [.Is] [.Constant .none j p] pos) eBool (bindM m fun x => pureM (isNon x)) := e_cmp op_isN v_isD ha e_non
theorem e_notNd {m : M PyData} {j p} (ha : EJ X R Γ a eD m) : EJ X R Γ (.Compare a [.IsNot] [.Constant .none j p] pos) eBool (bindM m fun x => pureM (!isNon x)) := e_cmp op_notN v_notD ha e_non
theorem t_isNd {m : M PyData} {j p} (ha : EJ X R Γ a eD m) : TJ X R Γ (.Compare a [.Is] [.Constant .none j p] pos) (bindM m fun x => pureM (isNon x)) := t_cmp op_isN v_isD ha e_non
theorem t_notNd {m : M PyData} {j p} (ha : EJ X R Γ a eD m) : TJ X R Γ (.Compare a [.IsNot] [.Constant .none j p] pos) (bindM m fun x => pureM (!isNon x)) := t_cmp op_notN v_notD ha e_non
end
/-- None or not: as data -/
theorem Dc.opt {α : Type} {n : Nat} [DecidableEq α] {ea : α → PyData} (h : NN ea) (k : Dc n ea) : Dc n (eO ea) := ⟨fun x => by cases x with
  | none => rfl
  | some x => exact k.plain x, fun x => by cases x with
  | none => simp [eO, PyData.depth]
  | some x => exact k.depth x, fun x y => by
    have aux : ∀ d : PyData, d ≠ .none → PyData.eqv .none d = false ∧ PyData.eqv d .none = false := fun d hd => by cases d <;> simp [PyData.eqv] at hd ⊢
    cases x with
    | none => cases y with
      | none => simp [eO, PyData.eqv]
      | some y => simp [eO, (aux _ (h y)).1]
    | some x => cases y with
      | none => simp [eO, (aux _ (h x)).2]
      | some y => simp [eO, k.eqv x y]⟩
end Pz

namespace Pz
open PySem PySem.Spec PyProof.Rows L2

/-! ### t[::-1] -/
section
variable {prog : Program} {w : World} {A : Around} {E : Value → Shared → Prop} {sh : Shared}
theorem sliceApplied_back {sl : Addr} {vs : Value} {n : Nat} {Q : Int × Int × Nat → Shared → Prop} (isSl : sh.heap.IsSliceOf sl .none .none vs) (back : IsPart vs (some (-1))) (want : Q ((n : Int) - 1, -1, n) sh) :
    wpAny (model prog w) A (Builtin.Slice.sliceApplied (.ref sl) (pure (n : Int))) Q E sh := by
  obtain ⟨ob, hob, hcls, hdat⟩ := isSl
  unfold Builtin.Slice.sliceApplied Builtin.Slice.sliceFields
  refine wpAny_bind (wpAny_bind (wpAny_field hob hdat (x := .none) rfl (wpAny_bind (wpAny_field hob hdat (x := .none) rfl (wpAny_bind (wpAny_field hob hdat (x := vs) rfl (wpAny_pure ?_)))))))
  refine wpAny_bind (HT.slicePart_ back ?_)
  show wpAny _ _ (if ((-1 : Int) == 0) = true then _ else _) _ _ sh
  rw [if_neg (by decide)]
  refine wpAny_bind (slicePart_none (wpAny_bind (slicePart_none (wpAny_bind (wpAny_pure ?_)))))
  show wpAny _ _ (match Builtin.Slice.sliceAdjust none none (-1) (n : Int) with | (x, y) => pure (x, (-1 : Int), Builtin.Slice.slicePlaces x y (-1))) _ _ sh
  show wpAny _ _ (pure ((n : Int) - 1, (-1 : Int), Builtin.Slice.slicePlaces ((n : Int) - 1) (-1) (-1))) _ _ sh
  have e1 : Builtin.Slice.slicePlaces ((n : Int) - 1) (-1) (-1) = n := by
    unfold Builtin.Slice.slicePlaces
    rw [if_neg (by decide)]
    by_cases h : (n : Int) - 1 > -1
    · rw [if_pos h, show (-(-1) : Int) = 1 by decide, Int.ediv_one]; omega
    · rw [if_neg h]; omega
  rw [e1]
  exact wpAny_pure want
theorem fm_cong {α β : Type} {f g : α → Option β} : ∀ {l : List α}, (∀ x ∈ l, f x = g x) → l.filterMap f = l.filterMap g
  | [], _ => rfl
  | x :: l, h => by rw [List.filterMap_cons, List.filterMap_cons, h x List.mem_cons_self, fm_cong fun y hy => h y (List.mem_cons_of_mem _ hy)]
theorem pick_back (xs : Array Value) : ((List.range xs.size).filterMap fun (m : Nat) => xs[(((xs.size : Int) - 1) + (m : Int) * (-1)).toNat]?).toArray = xs.toList.reverse.toArray := by
  have e1 : ((List.range xs.size).filterMap fun (m : Nat) => xs[(((xs.size : Int) - 1) + (m : Int) * (-1)).toNat]?) = ((List.range xs.size).map fun k => xs.size - 1 - k).filterMap (xs[·]?) := by
    rw [List.filterMap_map]
    refine fm_cong fun m hm => ?_
    have := List.mem_range.mp hm
    simp only [Function.comp]
    rw [show (((xs.size : Int) - 1) + (m : Int) * (-1)).toNat = xs.size - 1 - m by omega]
  rw [e1, PySem.W.krv_range, List.filterMap_reverse, PySem.W.krv_all]
theorem getItem_tuple_back {t sl : Addr} {items : Array Value} {vs : Value} {Q : Value → Shared → Prop} (tup : IsTup sh.heap t items) (isSl : sh.heap.IsSliceOf sl .none .none vs) (back : IsPart vs (some (-1))) (small : items.size ≤ sizeLine)
    (want : Q (.ref sh.heap.objs.size) { sh with heap := sh.heap.push { cls := .type "tuple", data := .seq items.toList.reverse.toArray } }) : wpAny (model prog w) A (getItem (.ref t) (.ref sl)) Q E sh := by
  have fits : sizeOk (.seq items.toList.reverse.toArray) := by
    show items.toList.reverse.toArray.size ≤ sizeLine
    rw [List.size_toArray, List.length_reverse, Array.length_toList]; exact small
  obtain ⟨ob, hob, hcls, hdat⟩ := id isSl
  have tySl : sh.TypeIs (.ref sl) "slice" := ⟨ob, hob, hcls⟩
  unfold getItem
  try with_reducible refine wpAny_holding ?_
  first | refine wpAny_bind (wpAny_pure ?_) | skip
  refine wpAny_bind (wpAny_sequenceKey tup.typeIs (by decide) ?_)
  refine wpAny_bind (wpAny_callSpecial?_slot (name := Str.ofString "__getitem__") tup.typeIs PyProof.Rows.slot_tuple_getitem (wpAny_call_entry PyProof.Rows.slot_tuple_getitem tup.typeIs entry_tuple_getitem ?_ (args_tuple_getitem _ _)))
  show wpAny _ _ (Builtin.Tuple.tupleItemsOf (.ref t) >>= _) _ _ sh
  refine wpAny_bind (tupleItemsOf_ tup ?_)
  refine wpAny_bind (wpAny_typeOf tySl ?_)
  rw [if_pos (by decide)]
  refine wpAny_bind (sliceApplied_back isSl back ?_)
  show wpAny _ _ (if (((items.size : Int) - 1) == 0 && (-1 : Int) == 1 && items.size == items.size) = true then _ else _) _ _ sh
  rw [if_neg (by simp), pick_back]
  first
    | exact wpAny_bind (m := Builtin.Tuple.tupleExact _) (wpAny_newObj_type (wpAny_pure ⟨_, rfl, wpAny_pure want⟩) fits)
    | exact wpAny_bind (m := Builtin.Tuple.tupleExact _) (wpAny_newObj_type (wpAny_bind (wpAny_pure (wpAny_pure ⟨_, rfl, wpAny_pure want⟩))) fits)
    | exact wpAny_bind (wpAny_bind (m := Builtin.Tuple.tupleExact _) (wpAny_newObj_type (wpAny_pure (wpAny_pure ⟨_, rfl, wpAny_pure want⟩)) fits))
    | exact wpAny_bind (wpAny_bind (m := Builtin.Tuple.tupleExact _) (wpAny_newObj_type (wpAny_pure ⟨_, rfl, wpAny_pure want⟩) fits))
end
section
variable {X : Cx} {R : Res} {Γ : List Slot} {α β : Type} {ea : α → PyData} {eb : β → PyData}
def tRevT (K : PySem.W.Frag) (te : TE) : TE := fun σ H Q => te σ H fun x H1 => ∃ a ys, x = .ref a ∧ SqT K H1 a ys ∧ ∀ p, H1 p = none → Q (.ref p) (upd H1 p (.tup ys.reverse))
theorem pe_revT {e : Expr} {te : TE} {k : Nat} {p1 p2 p3 pos : Pos} (he : PE X e te) : PE X (.Subscript e (.Slice none none (some (.UnaryOp .USub (.Constant (.int 1) k p1) p2)) p3) pos) (tRevT X.K te) := by
  refine ⟨fun pins s σ H Q I want => ?_⟩
  refine Subscript_ (thn (he.run pins s σ H _ I want) fun v s1 ⟨x, H1, I1, r1, q1⟩ => ?_)
  obtain ⟨a, ys, ex, hx, q⟩ := q1
  subst ex
  cases r1
  have hstep : PO X (some (.UnaryOp .USub (.Constant (.int 1) k p1) p2)) (tPart (tUn (rU fun i => .int (-i)) (tC (.int 1)))) := po_some (pe_un un_neg pe_int)
  refine wpAny_Slice (thn (po_none.run pins s1 σ H1 (fun o H2 => o = none ∧ H2 = H1) I1 ⟨rfl, rfl⟩) fun vl s2 ⟨l, H2, I2, pl, el, e2⟩ => ?_)
  subst el e2
  refine thn (po_none.run pins s2 σ H2 (fun o H3 => o = none ∧ H3 = H2) I2 ⟨rfl, rfl⟩) fun vu s3 ⟨u, H3, I3, pu, eu, e3⟩ => ?_
  subst eu e3
  refine thn (hstep.run pins s3 σ H3 (fun o H4 => o = some (-1) ∧ H4 = H3) I3 ⟨1, rfl, -1, rfl, rfl, rfl⟩) fun vstep s4 ⟨o, H4, I4, ps, eo, e4⟩ => ?_
  subst eo e4
  cases pl
  cases pu
  have I5 : Inv X pins σ H4 { s4 with heap := s4.heap.push { cls := .type "slice", data := .fields #[.none, .none, vstep] } } := I4.kept (t' := s4.toks) fun b ob q => Heap.get?_push_of_some _ q
  obtain ⟨its, r, tup, hz⟩ := I5.tuple hx
  have hlen := r.length
  show wpAny (model X.prog X.w) X.A (subscriptTail e (.Slice none none (some (.UnaryOp .USub (.Constant (.int 1) k p1) p2)) p3) (.ref a) (.ref s4.heap.objs.size)) (EP X pins σ Q) X.xe { s4 with heap := s4.heap.push { cls := .type "slice", data := .fields #[.none, .none, vstep] } }
  refine tail_any (ops := [.ref a, .ref s4.heap.objs.size]) tup.typeIs (PyProof.Rows.slot_tuple_getitem.lookup) ?_ (by with_unfolding_all rfl)
  refine getItem_tuple_back tup (Heap.IsSliceOf.new _ .none .none vstep) ps (by rw [List.size_toArray]; omega) ?_
  refine ⟨.ref _, _, I5.laid (t' := s4.toks) (o := .tup ys.reverse) (fun b ob q => Heap.get?_push_of_some _ q) (Nat.le_refl _) ?_, rfl, q _ (I5.hok.fresh (Nat.le_refl _))⟩
  exact ⟨by rw [List.length_reverse]; exact hz, _, r.reverse, IsTup.new _ _⟩
theorem e_revT {e : Expr} {k : Nat} {p1 p2 p3 pos : Pos} {m : M (List α)} (h : EJ X R Γ e (eT ea) m) : EJ X R Γ (.Subscript e (.Slice none none (some (.UnaryOp .USub (.Constant (.int 1) k p1) p2)) p3) pos) (eT ea) (bindM m fun x => pureM x.reverse) := by
  refine PE.weak (pe_revT h) fun σ H Q ⟨O, H0, ow, st, z, st', rel, ok, e, q⟩ => ?_
  obtain ⟨x, s1, e1, e2⟩ := bind_some e
  obtain ⟨rfl, rfl⟩ := pure_some e2
  refine ⟨O, H0, ow, st, x, s1, rel, ok, e1, fun v H1 k1 o1 rp => ?_⟩
  cases rp with
  | @tup a vs _ na ha hr =>
    refine ⟨a, vs, rfl, SqT.of ha, fun p n => q _ _ (keepS k1 (same_new n)) (o1.same (same_new n)) (.tup ((rel.grow k1 (okZ o1)).ad.fresh n) upd_same ?_)⟩
    rw [List.map_reverse]
    exact hr.reverse.keep (Keep.of_same (same_new n))
theorem f_revL {e : Expr} {k : Nat} {p1 p2 p3 pos : Pos} {m : M (List α)} (h : EJ X R Γ e (eL ea) m) : EF X R Γ (.Subscript e (.Slice none none (some (.UnaryOp .USub (.Constant (.int 1) k p1) p2)) p3) pos) ea (bindM m fun x => pureM x.reverse) := by
  refine PE.weak (pe_revL h) fun σ H Q ⟨O, H0, ow, st, z, st', rel, ok, e, q⟩ => ?_
  obtain ⟨x, s1, e1, e2⟩ := bind_some e
  obtain ⟨rfl, rfl⟩ := pure_some e2
  refine ⟨O, H0, ow, st, x, s1, rel, ok, e1, fun v H1 k1 o1 rp => ?_⟩
  cases rp with
  | @lst a vs _ na ha hr =>
    refine ⟨a, vs, rfl, SqL.of ha, fun p n => q p _ _ (noneK k1 o1 n) (keepS k1 (same_new n)) (o1.same (same_new n)) upd_same ?_⟩
    rw [List.map_reverse]
    exact hr.reverse.at n (Keep.of_same (same_new n))

/-! ### zip -/
theorem zipL_get (xs : List α) (ys : List β) (i : Nat) : (zipL xs ys)[i]? = (xs[i]?.bind fun x => ys[i]?.map fun y => (x, y, ())) := by
  unfold zipL
  rw [List.getElem?_zipWith]
  cases xs[i]? <;> cases ys[i]? <;> rfl
theorem itok_zipL {K : PySem.W.Frag} {A : Av} {H1 : Hp} {p q : Addr} {vs ws : List V} {xs : List α} {ys : List β} (na : ¬ A p) (ha : H1 p = some (.lst vs)) (r : RpAll A H1 vs (xs.map ea)) (nb : ¬ A q) (hb : H1 q = some (.lst ws)) (r2 : RpAll A H1 ws (ys.map eb)) :
    ItOk (Itz K p q) A H1 ((zipL xs ys).map (eP (eC ea (eC eb eU)))) := fun H i k => by
  have hH := k _ _ na ha
  have hH2 := k _ _ nb hb
  have hl := r.length
  have hl2 := r2.length
  rw [List.length_map] at hl hl2
  refine ⟨fun h => ⟨vs, ws, SqL.of hH, SqL.of hH2, ?_⟩, fun d hd => ?_⟩
  · rw [List.length_map] at h
    unfold zipL at h
    rw [List.length_zipWith] at h
    omega
  · rw [List.getElem?_map, zipL_get] at hd
    cases hx : xs[i]? with
    | none => rw [hx] at hd; cases hd
    | some x =>
      cases hy : ys[i]? with
      | none => rw [hx, hy] at hd; cases hd
      | some y =>
        rw [hx, hy] at hd
        obtain ⟨v, hv, rv⟩ := r.get (show (xs.map ea)[i]? = some (ea x) by rw [List.getElem?_map, hx]; rfl)
        obtain ⟨v2, hv2, rv2⟩ := r2.get (show (ys.map eb)[i]? = some (eb y) by rw [List.getElem?_map, hy]; rfl)
        refine ⟨⟨vs, ws, v, v2, SqL.of hH, SqL.of hH2, hv, hv2⟩, fun w H' yl => ?_⟩
        obtain ⟨T, a', b', rfl, nT, rfl, ha', hb'⟩ := yl
        have e1 := ha' vs (SqL.of hH)
        rw [hv] at e1
        obtain rfl : v = a' := Option.some.inj e1
        have e2 := hb' ws (SqL.of hH2)
        rw [hv2] at e2
        obtain rfl : v2 = b' := Option.some.inj e2
        refine ⟨same_new nT, fun A' h1 h2 => ?_⟩
        have hd' : PyData.tuple [ea x, eb y] = d := Option.some.inj hd
        subst hd'
        exact pair_rp (fun z => h2 T z nT) ((Rp.move (fun b o nb e => ⟨h1 b o nb e, k b o nb e⟩) _ _ rv).keep (Keep.of_same (same_new nT))) ((Rp.move (fun b o nb e => ⟨h1 b o nb e, k b o nb e⟩) _ _ rv2).keep (Keep.of_same (same_new nT))) upd_same
theorem itok_zipT {K : PySem.W.Frag} {A : Av} {H1 : Hp} {p q : Addr} {vs ws : List V} {xs : List α} {ys : List β} (na : ¬ A p) (ha : H1 p = some (.tup vs)) (r : RpAll A H1 vs (xs.map ea)) (nb : ¬ A q) (hb : H1 q = some (.tup ws)) (r2 : RpAll A H1 ws (ys.map eb)) :
    ItOk (RZ.ItzT K p q) A H1 ((zipL xs ys).map (eP (eC ea (eC eb eU)))) := fun H i k => by
  have hH := k _ _ na ha
  have hH2 := k _ _ nb hb
  have hl := r.length
  have hl2 := r2.length
  rw [List.length_map] at hl hl2
  refine ⟨fun h => ⟨vs, ws, SqT.of hH, SqT.of hH2, ?_⟩, fun d hd => ?_⟩
  · rw [List.length_map] at h
    unfold zipL at h
    rw [List.length_zipWith] at h
    omega
  · rw [List.getElem?_map, zipL_get] at hd
    cases hx : xs[i]? with
    | none => rw [hx] at hd; cases hd
    | some x =>
      cases hy : ys[i]? with
      | none => rw [hx, hy] at hd; cases hd
      | some y =>
        rw [hx, hy] at hd
        obtain ⟨v, hv, rv⟩ := r.get (show (xs.map ea)[i]? = some (ea x) by rw [List.getElem?_map, hx]; rfl)
        obtain ⟨v2, hv2, rv2⟩ := r2.get (show (ys.map eb)[i]? = some (eb y) by rw [List.getElem?_map, hy]; rfl)
        refine ⟨⟨vs, ws, v, v2, SqT.of hH, SqT.of hH2, hv, hv2⟩, fun w H' yl => ?_⟩
        obtain ⟨T, a', b', rfl, nT, rfl, ha', hb'⟩ := yl
        have e1 := ha' vs (SqT.of hH)
        rw [hv] at e1
        obtain rfl : v = a' := Option.some.inj e1
        have e2 := hb' ws (SqT.of hH2)
        rw [hv2] at e2
        obtain rfl : v2 = b' := Option.some.inj e2
        refine ⟨same_new nT, fun A' h1 h2 => ?_⟩
        have hd' : PyData.tuple [ea x, eb y] = d := Option.some.inj hd
        subst hd'
        exact pair_rp (fun z => h2 T z nT) ((Rp.move (fun b o nb e => ⟨h1 b o nb e, k b o nb e⟩) _ _ rv).keep (Keep.of_same (same_new nT))) ((Rp.move (fun b o nb e => ⟨h1 b o nb e, k b o nb e⟩) _ _ rv2).keep (Keep.of_same (same_new nT))) upd_same
theorem i_zipLL {a b : Expr} {pos : Pos} {elts : List Expr} {k : Nat} {tpos p : Pos} {ma : M (List α)} {mb : M (List β)} (hm : X.mg "zip" = none) (ha : EJ X R Γ a (eL ea) ma) (hb : EJ X R Γ b (eL eb) mb) (hg : Gl X "zip" := by rfl)
    (hs : starEach [a, b] X.env = (false, eval a X.env) :: starEach [b] X.env := by rfl) (hs2 : starEach [b] X.env = (false, eval b X.env) :: starEach [] X.env := by rfl) :
    IJ X R Γ (.Call (.Name "zip" p) [a, b] [] pos) (.Tuple elts k tpos) (eP (eC ea (eC eb eU))) (bindM ma fun x => bindM mb fun y => pureM (zipL x y)) := by
  refine PI.weak (PI.fits (pi_zip hg hm (pa_cons ha (pa_cons hb pa_nil hs2) hs) hs (by rw [hs2]; rfl))) fun σ H Rr ⟨O, H0, ow, st, z, st', rel, ok, e, q⟩ => ?_
  obtain ⟨x, s1, e1, e2⟩ := bind_some e
  obtain ⟨y, s2, e3, e4⟩ := bind_some e2
  obtain ⟨rfl, rfl⟩ := pure_some e4
  refine ⟨O, H0, ow, st, x, s1, rel, ok, e1, fun v H1 k1 o1 rp => ?_⟩
  have rel1 := rel.grow k1 (okZ o1)
  refine ⟨O, H0, ow, s1, y, s2, rel1, o1, e3, fun v2 H2 k2 o2 rp2 => ?_⟩
  have rpk := rp.keep (rel1.keepA k2)
  cases rpk with
  | @lst p0 vs _ na h0 ra =>
    cases rp2 with
    | @lst p1 ws _ nb h1 rb =>
      exact ⟨p0, p1, vs, ws, rfl, SqL.of h0, SqL.of h1, fun fit => q _ H2 (k1.trans k2) o2 (by have := fit p0 vs (.inl h0); rw [ra.length, List.length_map] at this; simp [zipL]; omega) (itok_zipL na h0 ra nb h1 rb)⟩
theorem i_zipTT {a b : Expr} {pos : Pos} {elts : List Expr} {k : Nat} {tpos p : Pos} {ma : M (List α)} {mb : M (List β)} (hm : X.mg "zip" = none) (ha : EJ X R Γ a (eT ea) ma) (hb : EJ X R Γ b (eT eb) mb) (hg : Gl X "zip" := by rfl)
    (hs : starEach [a, b] X.env = (false, eval a X.env) :: starEach [b] X.env := by rfl) (hs2 : starEach [b] X.env = (false, eval b X.env) :: starEach [] X.env := by rfl) :
    IJ X R Γ (.Call (.Name "zip" p) [a, b] [] pos) (.Tuple elts k tpos) (eP (eC ea (eC eb eU))) (bindM ma fun x => bindM mb fun y => pureM (zipL x y)) := by
  refine PI.weak (PI.fits (RZ.pi_zipA hg hm (pa_cons ha (pa_cons hb pa_nil hs2) hs) hs (by rw [hs2]; rfl))) fun σ H Rr ⟨O, H0, ow, st, z, st', rel, ok, e, q⟩ => ?_
  obtain ⟨x, s1, e1, e2⟩ := bind_some e
  obtain ⟨y, s2, e3, e4⟩ := bind_some e2
  obtain ⟨rfl, rfl⟩ := pure_some e4
  refine ⟨O, H0, ow, st, x, s1, rel, ok, e1, fun v H1 k1 o1 rp => ?_⟩
  have rel1 := rel.grow k1 (okZ o1)
  refine ⟨O, H0, ow, s1, y, s2, rel1, o1, e3, fun v2 H2 k2 o2 rp2 => ?_⟩
  have rpk := rp.keep (rel1.keepA k2)
  cases rpk with
  | @tup p0 vs _ na h0 ra =>
    cases rp2 with
    | @tup p1 ws _ nb h1 rb =>
      exact ⟨p0, p1, vs, ws, rfl, .inr ⟨SqT.of h0, SqT.of h1, fun fit => q _ H2 (k1.trans k2) o2 (by have := fit p0 vs (.inr h0); rw [ra.length, List.length_map] at this; simp [zipL]; omega) (itok_zipT na h0 ra nb h1 rb)⟩⟩
end
end Pz

namespace Pz
open PySem PySem.Spec PyProof.Rows L2 MeetsSeq SeqAt
/-! a dict beside other data: neither side knows the other -/
def IsD (hp : Heap) (l : Addr) : Prop := ∃ (dd : Option Addr) (es : Array DictEntry) (ep : Nat) (sl : Array (Option Value)), hp.get? l = some { cls := .type "dict", dict := dd, data := .dict es ep, slots := sl }
theorem dict_eq_bool (l : Addr) (es : Array DictEntry) (ep : Nat) (dd : Option Addr) (sl : Array (Option Value)) (c : Bool) :
    Meets (Builtin.«dict.__eq__» ⟨[.ref l, .bool c], []⟩) (fun _ R sh => sh.heap.get? l = some { cls := .type "dict", dict := dd, data := .dict es ep, slots := sl } ∧ R (.ok (.ret .notImplemented)) sh) :=
  .of_wp fun prog w A R sh want => by
    obtain ⟨hq, gq, dq, tq, oq⟩ := sh
    obtain ⟨hl, want⟩ := want
    have f1 := F.sub_bool_dict
    wp_walk using AutoSeq1.wpAny_loadPart' hl
    exact ⟨_, rfl, want⟩
theorem bool_eq_dict (c : Bool) (l : Addr) (es : Array DictEntry) (ep : Nat) (dd : Option Addr) (sl : Array (Option Value)) :
    Meets (Builtin.«int.__eq__» ⟨[.bool c, .ref l], []⟩) (fun _ R sh => sh.heap.get? l = some { cls := .type "dict", dict := dd, data := .dict es ep, slots := sl } ∧ R (.ok (.ret .notImplemented)) sh) :=
  .of_wp fun prog w A R sh want => by
    obtain ⟨hq, gq, dq, tq, oq⟩ := sh
    obtain ⟨hl, want⟩ := want
    wp_walk using AutoSeq1.wpAny_loadPart' hl, wpAny_load hl
    exact ⟨_, rfl, want⟩
theorem dict_eq_int (l : Addr) (es : Array DictEntry) (ep : Nat) (dd : Option Addr) (sl : Array (Option Value)) (c : Int) (u : Tok) :
    Meets (Builtin.«dict.__eq__» ⟨[.ref l, .int c u], []⟩) (fun _ R sh => sh.heap.get? l = some { cls := .type "dict", dict := dd, data := .dict es ep, slots := sl } ∧ R (.ok (.ret .notImplemented)) sh) :=
  .of_wp fun prog w A R sh want => by
    obtain ⟨hq, gq, dq, tq, oq⟩ := sh
    obtain ⟨hl, want⟩ := want
    have f1 := F.sub_int_dict
    wp_walk using AutoSeq1.wpAny_loadPart' hl
    exact ⟨_, rfl, want⟩
theorem int_eq_dict (c : Int) (u : Tok) (l : Addr) (es : Array DictEntry) (ep : Nat) (dd : Option Addr) (sl : Array (Option Value)) :
    Meets (Builtin.«int.__eq__» ⟨[.int c u, .ref l], []⟩) (fun _ R sh => sh.heap.get? l = some { cls := .type "dict", dict := dd, data := .dict es ep, slots := sl } ∧ R (.ok (.ret .notImplemented)) sh) :=
  .of_wp fun prog w A R sh want => by
    obtain ⟨hq, gq, dq, tq, oq⟩ := sh
    obtain ⟨hl, want⟩ := want
    wp_walk using AutoSeq1.wpAny_loadPart' hl, wpAny_load hl
    exact ⟨_, rfl, want⟩
theorem dict_eq_str (l : Addr) (es : Array DictEntry) (ep : Nat) (dd : Option Addr) (sl : Array (Option Value)) (c : Str) (u : Tok) :
    Meets (Builtin.«dict.__eq__» ⟨[.ref l, .str c u], []⟩) (fun _ R sh => sh.heap.get? l = some { cls := .type "dict", dict := dd, data := .dict es ep, slots := sl } ∧ R (.ok (.ret .notImplemented)) sh) :=
  .of_wp fun prog w A R sh want => by
    obtain ⟨hq, gq, dq, tq, oq⟩ := sh
    obtain ⟨hl, want⟩ := want
    have f1 := F.sub_str_dict
    wp_walk using AutoSeq1.wpAny_loadPart' hl
    exact ⟨_, rfl, want⟩
theorem str_eq_dict (c : Str) (u : Tok) (l : Addr) (es : Array DictEntry) (ep : Nat) (dd : Option Addr) (sl : Array (Option Value)) :
    Meets (Builtin.«str.__eq__» ⟨[.str c u, .ref l], []⟩) (fun _ R sh => sh.heap.get? l = some { cls := .type "dict", dict := dd, data := .dict es ep, slots := sl } ∧ R (.ok (.ret .notImplemented)) sh) :=
  .of_wp fun prog w A R sh want => by
    obtain ⟨hq, gq, dq, tq, oq⟩ := sh
    obtain ⟨hl, want⟩ := want
    wp_walk using AutoSeq1.wpAny_loadPart' hl, wpAny_load hl
    exact ⟨_, rfl, want⟩
theorem dict_eq_none (l : Addr) (es : Array DictEntry) (ep : Nat) (dd : Option Addr) (sl : Array (Option Value))  :
    Meets (Builtin.«dict.__eq__» ⟨[.ref l, .none], []⟩) (fun _ R sh => sh.heap.get? l = some { cls := .type "dict", dict := dd, data := .dict es ep, slots := sl } ∧ R (.ok (.ret .notImplemented)) sh) :=
  .of_wp fun prog w A R sh want => by
    obtain ⟨hq, gq, dq, tq, oq⟩ := sh
    obtain ⟨hl, want⟩ := want
    have f1 := F.sub_NoneType_dict
    wp_walk using AutoSeq1.wpAny_loadPart' hl
    exact ⟨_, rfl, want⟩
theorem dict_eq_list (l b : Addr) (es : Array DictEntry) (ep : Nat) (dd : Option Addr) (sl : Array (Option Value)) (ys : Array Value) (n2 : Nat) (d2 : Option Addr) (s2 : Array (Option Value)) :
    Meets (Builtin.«dict.__eq__» ⟨[.ref l, .ref b], []⟩) (fun _ R sh => sh.heap.get? l = some { cls := .type "dict", dict := dd, data := .dict es ep, slots := sl } ∧ sh.heap.get? b = some { cls := .type "list", dict := d2, data := .seq ys n2, slots := s2 } ∧ R (.ok (.ret .notImplemented)) sh) :=
  .of_wp fun prog w A R sh want => by
    obtain ⟨hq, gq, dq, tq, oq⟩ := sh
    obtain ⟨hl, hb, want⟩ := want
    have f1 := F.sub_list_dict
    wp_walk using AutoSeq1.wpAny_loadPart' hl, AutoSeq1.wpAny_loadPart' hb
    exact ⟨_, rfl, want⟩
theorem list_eq_dict (b l : Addr) (es : Array DictEntry) (ep : Nat) (dd : Option Addr) (sl : Array (Option Value)) (ys : Array Value) (n2 : Nat) (d2 : Option Addr) (s2 : Array (Option Value)) :
    Meets (Builtin.«list.__eq__» ⟨[.ref b, .ref l], []⟩) (fun _ R sh => sh.heap.get? b = some { cls := .type "list", dict := d2, data := .seq ys n2, slots := s2 } ∧ sh.heap.get? l = some { cls := .type "dict", dict := dd, data := .dict es ep, slots := sl } ∧ R (.ok (.ret .notImplemented)) sh) :=
  .of_wp fun prog w A R sh want => by
    obtain ⟨hq, gq, dq, tq, oq⟩ := sh
    obtain ⟨hb, hl, want⟩ := want
    have f1 := F.sub_dict_list
    wp_walk using AutoSeq1.wpAny_loadPart' hb, AutoSeq1.wpAny_loadPart' hl
    exact ⟨_, rfl, want⟩
theorem dict_eq_tuple (l b : Addr) (es : Array DictEntry) (ep : Nat) (dd : Option Addr) (sl : Array (Option Value)) (ys : Array Value) (n2 : Nat) (d2 : Option Addr) (s2 : Array (Option Value)) :
    Meets (Builtin.«dict.__eq__» ⟨[.ref l, .ref b], []⟩) (fun _ R sh => sh.heap.get? l = some { cls := .type "dict", dict := dd, data := .dict es ep, slots := sl } ∧ sh.heap.get? b = some { cls := .type "tuple", dict := d2, data := .seq ys n2, slots := s2 } ∧ R (.ok (.ret .notImplemented)) sh) :=
  .of_wp fun prog w A R sh want => by
    obtain ⟨hq, gq, dq, tq, oq⟩ := sh
    obtain ⟨hl, hb, want⟩ := want
    have f1 := F.sub_tuple_dict
    wp_walk using AutoSeq1.wpAny_loadPart' hl, AutoSeq1.wpAny_loadPart' hb
    exact ⟨_, rfl, want⟩
theorem tuple_eq_dict (b l : Addr) (es : Array DictEntry) (ep : Nat) (dd : Option Addr) (sl : Array (Option Value)) (ys : Array Value) (n2 : Nat) (d2 : Option Addr) (s2 : Array (Option Value)) :
    Meets (Builtin.«tuple.__eq__» ⟨[.ref b, .ref l], []⟩) (fun _ R sh => sh.heap.get? b = some { cls := .type "tuple", dict := d2, data := .seq ys n2, slots := s2 } ∧ sh.heap.get? l = some { cls := .type "dict", dict := dd, data := .dict es ep, slots := sl } ∧ R (.ok (.ret .notImplemented)) sh) :=
  .of_wp fun prog w A R sh want => by
    obtain ⟨hq, gq, dq, tq, oq⟩ := sh
    obtain ⟨hb, hl, want⟩ := want
    have f1 := F.sub_dict_tuple
    wp_walk using AutoSeq1.wpAny_loadPart' hb, AutoSeq1.wpAny_loadPart' hl
    exact ⟨_, rfl, want⟩
theorem dict_ne_bool (l : Addr) (es : Array DictEntry) (ep : Nat) (dd : Option Addr) (sl : Array (Option Value)) (c : Bool) :
    Meets (Builtin.«dict.__ne__» ⟨[.ref l, .bool c], []⟩) (fun _ R sh => sh.heap.get? l = some { cls := .type "dict", dict := dd, data := .dict es ep, slots := sl } ∧ R (.ok (.ret .notImplemented)) sh) :=
  .of_wp fun prog w A R sh want => by
    obtain ⟨hq, gq, dq, tq, oq⟩ := sh
    obtain ⟨hl, want⟩ := want
    have f1 := F.sub_bool_dict
    wp_walk using AutoSeq1.wpAny_loadPart' hl
    exact ⟨_, rfl, want⟩
theorem bool_ne_dict (c : Bool) (l : Addr) (es : Array DictEntry) (ep : Nat) (dd : Option Addr) (sl : Array (Option Value)) :
    Meets (Builtin.«int.__ne__» ⟨[.bool c, .ref l], []⟩) (fun _ R sh => sh.heap.get? l = some { cls := .type "dict", dict := dd, data := .dict es ep, slots := sl } ∧ R (.ok (.ret .notImplemented)) sh) :=
  .of_wp fun prog w A R sh want => by
    obtain ⟨hq, gq, dq, tq, oq⟩ := sh
    obtain ⟨hl, want⟩ := want
    wp_walk using AutoSeq1.wpAny_loadPart' hl, wpAny_load hl
    exact ⟨_, rfl, want⟩
theorem dict_ne_int (l : Addr) (es : Array DictEntry) (ep : Nat) (dd : Option Addr) (sl : Array (Option Value)) (c : Int) (u : Tok) :
    Meets (Builtin.«dict.__ne__» ⟨[.ref l, .int c u], []⟩) (fun _ R sh => sh.heap.get? l = some { cls := .type "dict", dict := dd, data := .dict es ep, slots := sl } ∧ R (.ok (.ret .notImplemented)) sh) :=
  .of_wp fun prog w A R sh want => by
    obtain ⟨hq, gq, dq, tq, oq⟩ := sh
    obtain ⟨hl, want⟩ := want
    have f1 := F.sub_int_dict
    wp_walk using AutoSeq1.wpAny_loadPart' hl
    exact ⟨_, rfl, want⟩
theorem int_ne_dict (c : Int) (u : Tok) (l : Addr) (es : Array DictEntry) (ep : Nat) (dd : Option Addr) (sl : Array (Option Value)) :
    Meets (Builtin.«int.__ne__» ⟨[.int c u, .ref l], []⟩) (fun _ R sh => sh.heap.get? l = some { cls := .type "dict", dict := dd, data := .dict es ep, slots := sl } ∧ R (.ok (.ret .notImplemented)) sh) :=
  .of_wp fun prog w A R sh want => by
    obtain ⟨hq, gq, dq, tq, oq⟩ := sh
    obtain ⟨hl, want⟩ := want
    wp_walk using AutoSeq1.wpAny_loadPart' hl, wpAny_load hl
    exact ⟨_, rfl, want⟩
theorem dict_ne_str (l : Addr) (es : Array DictEntry) (ep : Nat) (dd : Option Addr) (sl : Array (Option Value)) (c : Str) (u : Tok) :
    Meets (Builtin.«dict.__ne__» ⟨[.ref l, .str c u], []⟩) (fun _ R sh => sh.heap.get? l = some { cls := .type "dict", dict := dd, data := .dict es ep, slots := sl } ∧ R (.ok (.ret .notImplemented)) sh) :=
  .of_wp fun prog w A R sh want => by
    obtain ⟨hq, gq, dq, tq, oq⟩ := sh
    obtain ⟨hl, want⟩ := want
    have f1 := F.sub_str_dict
    wp_walk using AutoSeq1.wpAny_loadPart' hl
    exact ⟨_, rfl, want⟩
theorem str_ne_dict (c : Str) (u : Tok) (l : Addr) (es : Array DictEntry) (ep : Nat) (dd : Option Addr) (sl : Array (Option Value)) :
    Meets (Builtin.«str.__ne__» ⟨[.str c u, .ref l], []⟩) (fun _ R sh => sh.heap.get? l = some { cls := .type "dict", dict := dd, data := .dict es ep, slots := sl } ∧ R (.ok (.ret .notImplemented)) sh) :=
  .of_wp fun prog w A R sh want => by
    obtain ⟨hq, gq, dq, tq, oq⟩ := sh
    obtain ⟨hl, want⟩ := want
    wp_walk using AutoSeq1.wpAny_loadPart' hl, wpAny_load hl
    exact ⟨_, rfl, want⟩
theorem dict_ne_none (l : Addr) (es : Array DictEntry) (ep : Nat) (dd : Option Addr) (sl : Array (Option Value))  :
    Meets (Builtin.«dict.__ne__» ⟨[.ref l, .none], []⟩) (fun _ R sh => sh.heap.get? l = some { cls := .type "dict", dict := dd, data := .dict es ep, slots := sl } ∧ R (.ok (.ret .notImplemented)) sh) :=
  .of_wp fun prog w A R sh want => by
    obtain ⟨hq, gq, dq, tq, oq⟩ := sh
    obtain ⟨hl, want⟩ := want
    have f1 := F.sub_NoneType_dict
    wp_walk using AutoSeq1.wpAny_loadPart' hl
    exact ⟨_, rfl, want⟩
theorem dict_ne_list (l b : Addr) (es : Array DictEntry) (ep : Nat) (dd : Option Addr) (sl : Array (Option Value)) (ys : Array Value) (n2 : Nat) (d2 : Option Addr) (s2 : Array (Option Value)) :
    Meets (Builtin.«dict.__ne__» ⟨[.ref l, .ref b], []⟩) (fun _ R sh => sh.heap.get? l = some { cls := .type "dict", dict := dd, data := .dict es ep, slots := sl } ∧ sh.heap.get? b = some { cls := .type "list", dict := d2, data := .seq ys n2, slots := s2 } ∧ R (.ok (.ret .notImplemented)) sh) :=
  .of_wp fun prog w A R sh want => by
    obtain ⟨hq, gq, dq, tq, oq⟩ := sh
    obtain ⟨hl, hb, want⟩ := want
    have f1 := F.sub_list_dict
    wp_walk using AutoSeq1.wpAny_loadPart' hl, AutoSeq1.wpAny_loadPart' hb
    exact ⟨_, rfl, want⟩
theorem list_ne_dict (b l : Addr) (es : Array DictEntry) (ep : Nat) (dd : Option Addr) (sl : Array (Option Value)) (ys : Array Value) (n2 : Nat) (d2 : Option Addr) (s2 : Array (Option Value)) :
    Meets (Builtin.«list.__ne__» ⟨[.ref b, .ref l], []⟩) (fun _ R sh => sh.heap.get? b = some { cls := .type "list", dict := d2, data := .seq ys n2, slots := s2 } ∧ sh.heap.get? l = some { cls := .type "dict", dict := dd, data := .dict es ep, slots := sl } ∧ R (.ok (.ret .notImplemented)) sh) :=
  .of_wp fun prog w A R sh want => by
    obtain ⟨hq, gq, dq, tq, oq⟩ := sh
    obtain ⟨hb, hl, want⟩ := want
    have f1 := F.sub_dict_list
    wp_walk using AutoSeq1.wpAny_loadPart' hb, AutoSeq1.wpAny_loadPart' hl
    exact ⟨_, rfl, want⟩
theorem dict_ne_tuple (l b : Addr) (es : Array DictEntry) (ep : Nat) (dd : Option Addr) (sl : Array (Option Value)) (ys : Array Value) (n2 : Nat) (d2 : Option Addr) (s2 : Array (Option Value)) :
    Meets (Builtin.«dict.__ne__» ⟨[.ref l, .ref b], []⟩) (fun _ R sh => sh.heap.get? l = some { cls := .type "dict", dict := dd, data := .dict es ep, slots := sl } ∧ sh.heap.get? b = some { cls := .type "tuple", dict := d2, data := .seq ys n2, slots := s2 } ∧ R (.ok (.ret .notImplemented)) sh) :=
  .of_wp fun prog w A R sh want => by
    obtain ⟨hq, gq, dq, tq, oq⟩ := sh
    obtain ⟨hl, hb, want⟩ := want
    have f1 := F.sub_tuple_dict
    wp_walk using AutoSeq1.wpAny_loadPart' hl, AutoSeq1.wpAny_loadPart' hb
    exact ⟨_, rfl, want⟩
theorem tuple_ne_dict (b l : Addr) (es : Array DictEntry) (ep : Nat) (dd : Option Addr) (sl : Array (Option Value)) (ys : Array Value) (n2 : Nat) (d2 : Option Addr) (s2 : Array (Option Value)) :
    Meets (Builtin.«tuple.__ne__» ⟨[.ref b, .ref l], []⟩) (fun _ R sh => sh.heap.get? b = some { cls := .type "tuple", dict := d2, data := .seq ys n2, slots := s2 } ∧ sh.heap.get? l = some { cls := .type "dict", dict := dd, data := .dict es ep, slots := sl } ∧ R (.ok (.ret .notImplemented)) sh) :=
  .of_wp fun prog w A R sh want => by
    obtain ⟨hq, gq, dq, tq, oq⟩ := sh
    obtain ⟨hb, hl, want⟩ := want
    have f1 := F.sub_dict_tuple
    wp_walk using AutoSeq1.wpAny_loadPart' hb, AutoSeq1.wpAny_loadPart' hl
    exact ⟨_, rfl, want⟩
section
variable {A : Around} {s : Shared}
theorem ne_of_dict {l b : Addr} {ys : Array Value} {o : Obj} (hl : IsD s.heap l) (hb : s.heap.get? b = some o) (hc : o.cls ≠ .type "dict") : l ≠ b := fun z => by
  obtain ⟨dd, es, ep, sl, e⟩ := hl
  subst z
  rw [hb] at e
  cases e
  exact hc rfl
theorem eq_dict_bool {l : Addr} (c : Bool) (hl : IsD s.heap l) (hu : A.units < cLine) : RcAt A s (.ref l) (.bool c) false := fun prog w E Q want => by
  obtain ⟨dd, es, ep, sl, ob⟩ := hl
  exact rc_eq_decline_or (k := false) ⟨_, ob, rfl⟩ rfl (by decide) F.sub_bool_dict F.slot_dict_eq F.slot_bool_eq_refl (fun _ w2 => call_meets F.slot_dict_eq ⟨_, ob, rfl⟩ F.entry_dict_eq (F.args_dict_eq_2 _ _) (dict_eq_bool l es ep dd sl c) ⟨ob, w2⟩)
    (fun _ w2 => call_meets F.slot_bool_eq_refl rfl F.entry_int_eq (F.args_int_eq_2 _ _) (bool_eq_dict c l es ep dd sl) ⟨ob, w2⟩)
    (fun _ w2 => wpAny_of_eq (rfl : isSame (.ref l) (.bool c) = pure false) w2) (.inr hu) want
theorem eq_bool_dict_ {l : Addr} (c : Bool) (hl : IsD s.heap l) (hu : A.units < cLine) : RcAt A s (.bool c) (.ref l) false := fun prog w E Q want => by
  obtain ⟨dd, es, ep, sl, ob⟩ := hl
  exact rc_eq_decline_or (k := false) rfl ⟨_, ob, rfl⟩ (by decide) F.sub_dict_bool F.slot_bool_eq F.slot_dict_eq_refl
    (fun _ w2 => call_meets F.slot_bool_eq rfl F.entry_int_eq (F.args_int_eq_2 _ _) (bool_eq_dict c l es ep dd sl) ⟨ob, w2⟩)
    (fun _ w2 => call_meets F.slot_dict_eq_refl ⟨_, ob, rfl⟩ F.entry_dict_eq (F.args_dict_eq_2 _ _) (dict_eq_bool l es ep dd sl c) ⟨ob, w2⟩)
    (fun _ w2 => wpAny_of_eq (rfl : isSame (.bool c) (.ref l) = pure false) w2) (.inr hu) want
theorem eq_dict_int {l : Addr} (c : Int) (u : Tok) (hl : IsD s.heap l) (hu : A.units < cLine) : RcAt A s (.ref l) (.int c u) false := fun prog w E Q want => by
  obtain ⟨dd, es, ep, sl, ob⟩ := hl
  exact rc_eq_decline_or (k := false) ⟨_, ob, rfl⟩ (typeIs_int s c u) (by decide) F.sub_int_dict F.slot_dict_eq F.slot_int_eq_refl (fun _ w2 => call_meets F.slot_dict_eq ⟨_, ob, rfl⟩ F.entry_dict_eq (F.args_dict_eq_2 _ _) (dict_eq_int l es ep dd sl c u) ⟨ob, w2⟩)
    (fun _ w2 => call_meets F.slot_int_eq_refl (typeIs_int s c u) F.entry_int_eq (F.args_int_eq_2 _ _) (int_eq_dict c u l es ep dd sl) ⟨ob, w2⟩)
    (fun _ w2 => wpAny_of_eq (rfl : isSame (.ref l) (.int c u) = pure false) w2) (.inr hu) want
theorem eq_int_dict_ {l : Addr} (c : Int) (u : Tok) (hl : IsD s.heap l) (hu : A.units < cLine) : RcAt A s (.int c u) (.ref l) false := fun prog w E Q want => by
  obtain ⟨dd, es, ep, sl, ob⟩ := hl
  exact rc_eq_decline_or (k := false) (typeIs_int s c u) ⟨_, ob, rfl⟩ (by decide) F.sub_dict_int F.slot_int_eq F.slot_dict_eq_refl
    (fun _ w2 => call_meets F.slot_int_eq (typeIs_int s c u) F.entry_int_eq (F.args_int_eq_2 _ _) (int_eq_dict c u l es ep dd sl) ⟨ob, w2⟩)
    (fun _ w2 => call_meets F.slot_dict_eq_refl ⟨_, ob, rfl⟩ F.entry_dict_eq (F.args_dict_eq_2 _ _) (dict_eq_int l es ep dd sl c u) ⟨ob, w2⟩)
    (fun _ w2 => wpAny_of_eq (rfl : isSame (.int c u) (.ref l) = pure false) w2) (.inr hu) want
theorem eq_dict_str {l : Addr} (c : Str) (u : Tok) (hl : IsD s.heap l) (hu : A.units < cLine) : RcAt A s (.ref l) (.str c u) false := fun prog w E Q want => by
  obtain ⟨dd, es, ep, sl, ob⟩ := hl
  exact rc_eq_decline_or (k := false) ⟨_, ob, rfl⟩ (typeIs_str s c u) (by decide) F.sub_str_dict F.slot_dict_eq F.slot_str_eq_refl (fun _ w2 => call_meets F.slot_dict_eq ⟨_, ob, rfl⟩ F.entry_dict_eq (F.args_dict_eq_2 _ _) (dict_eq_str l es ep dd sl c u) ⟨ob, w2⟩)
    (fun _ w2 => call_meets F.slot_str_eq_refl (typeIs_str s c u) F.entry_str_eq (F.args_str_eq_2 _ _) (str_eq_dict c u l es ep dd sl) ⟨ob, w2⟩)
    (fun _ w2 => wpAny_of_eq (rfl : isSame (.ref l) (.str c u) = pure false) w2) (.inr hu) want
theorem eq_str_dict_ {l : Addr} (c : Str) (u : Tok) (hl : IsD s.heap l) (hu : A.units < cLine) : RcAt A s (.str c u) (.ref l) false := fun prog w E Q want => by
  obtain ⟨dd, es, ep, sl, ob⟩ := hl
  exact rc_eq_decline_or (k := false) (typeIs_str s c u) ⟨_, ob, rfl⟩ (by decide) F.sub_dict_str F.slot_str_eq F.slot_dict_eq_refl
    (fun _ w2 => call_meets F.slot_str_eq (typeIs_str s c u) F.entry_str_eq (F.args_str_eq_2 _ _) (str_eq_dict c u l es ep dd sl) ⟨ob, w2⟩)
    (fun _ w2 => call_meets F.slot_dict_eq_refl ⟨_, ob, rfl⟩ F.entry_dict_eq (F.args_dict_eq_2 _ _) (dict_eq_str l es ep dd sl c u) ⟨ob, w2⟩)
    (fun _ w2 => wpAny_of_eq (rfl : isSame (.str c u) (.ref l) = pure false) w2) (.inr hu) want
theorem eq_dict_none {l : Addr}  (hl : IsD s.heap l) (hu : A.units < cLine) : RcAt A s (.ref l) (.none) false := fun prog w E Q want => by
  obtain ⟨dd, es, ep, sl, ob⟩ := hl
  exact rc_eq_decline_or (k := false) ⟨_, ob, rfl⟩ rfl (by decide) F.sub_NoneType_dict F.slot_dict_eq F.slot_NoneType_eq_refl (fun _ w2 => call_meets F.slot_dict_eq ⟨_, ob, rfl⟩ F.entry_dict_eq (F.args_dict_eq_2 _ _) (dict_eq_none l es ep dd sl ) ⟨ob, w2⟩)
    (fun _ w2 => call_gives F.slot_NoneType_eq_refl rfl F.entry_NoneType_eq (F.args_NoneType_eq_2 _ _) (NoneType___eq___none_ref_0 l) w2)
    (fun _ w2 => wpAny_of_eq (rfl : isSame (.ref l) (.none) = pure false) w2) (.inr hu) want
theorem eq_none_dict_ {l : Addr}  (hl : IsD s.heap l) (hu : A.units < cLine) : RcAt A s (.none) (.ref l) false := fun prog w E Q want => by
  obtain ⟨dd, es, ep, sl, ob⟩ := hl
  exact rc_eq_decline_or (k := false) rfl ⟨_, ob, rfl⟩ (by decide) F.sub_dict_NoneType F.slot_NoneType_eq F.slot_dict_eq_refl
    (fun _ w2 => call_gives F.slot_NoneType_eq rfl F.entry_NoneType_eq (F.args_NoneType_eq_2 _ _) (NoneType___eq___none_ref_0 l) w2)
    (fun _ w2 => call_meets F.slot_dict_eq_refl ⟨_, ob, rfl⟩ F.entry_dict_eq (F.args_dict_eq_2 _ _) (dict_eq_none l es ep dd sl ) ⟨ob, w2⟩)
    (fun _ w2 => wpAny_of_eq (rfl : isSame (.none) (.ref l) = pure false) w2) (.inr hu) want
theorem eq_dict_list {l b : Addr} {ys : Array Value} (hl : IsD s.heap l) (hb : s.heap.IsList b ys) (hu : A.units < cLine) : RcAt A s (.ref l) (.ref b) false := fun prog w E Q want => by
  obtain ⟨⟨c2, d2, t2, s2⟩, ob2, e1, n2, e2⟩ := id hb
  simp only at e1 e2
  subst e1 e2
  have hne : l ≠ b := ne_of_dict (ys := #[]) hl ob2 (by simp)
  obtain ⟨dd, es, ep, sl, ob⟩ := hl
  exact rc_eq_decline_or (k := false) ⟨_, ob, rfl⟩ ⟨_, ob2, rfl⟩ (by decide) F.sub_list_dict F.slot_dict_eq F.slot_list_eq_refl
    (fun _ w2 => call_meets F.slot_dict_eq ⟨_, ob, rfl⟩ F.entry_dict_eq (F.args_dict_eq_2 _ _) (dict_eq_list l b es ep dd sl ys n2 d2 s2) ⟨ob, ob2, w2⟩)
    (fun _ w2 => call_meets F.slot_list_eq_refl ⟨_, ob2, rfl⟩ F.entry_list_eq (F.args_list_eq_2 _ _) (list_eq_dict b l es ep dd sl ys n2 d2 s2) ⟨ob2, ob, w2⟩)
    (fun _ w2 => wpAny_isSame_ref_other' hne ob ob2 (by simp) w2) (.inr hu) want
theorem eq_list_dict_ {l b : Addr} {ys : Array Value} (hl : IsD s.heap l) (hb : s.heap.IsList b ys) (hu : A.units < cLine) : RcAt A s (.ref b) (.ref l) false := fun prog w E Q want => by
  obtain ⟨⟨c2, d2, t2, s2⟩, ob2, e1, n2, e2⟩ := id hb
  simp only at e1 e2
  subst e1 e2
  have hne : l ≠ b := ne_of_dict (ys := #[]) hl ob2 (by simp)
  obtain ⟨dd, es, ep, sl, ob⟩ := hl
  exact rc_eq_decline_or (k := false) ⟨_, ob2, rfl⟩ ⟨_, ob, rfl⟩ (by decide) F.sub_dict_list F.slot_list_eq F.slot_dict_eq_refl
    (fun _ w2 => call_meets F.slot_list_eq ⟨_, ob2, rfl⟩ F.entry_list_eq (F.args_list_eq_2 _ _) (list_eq_dict b l es ep dd sl ys n2 d2 s2) ⟨ob2, ob, w2⟩)
    (fun _ w2 => call_meets F.slot_dict_eq_refl ⟨_, ob, rfl⟩ F.entry_dict_eq (F.args_dict_eq_2 _ _) (dict_eq_list l b es ep dd sl ys n2 d2 s2) ⟨ob, ob2, w2⟩)
    (fun _ w2 => wpAny_isSame_ref_other' (Ne.symm hne) ob2 ob (by simp) w2) (.inr hu) want
theorem eq_dict_tuple {l b : Addr} {ys : Array Value} (hl : IsD s.heap l) (hb : s.heap.IsTuple b ys) (hu : A.units < cLine) : RcAt A s (.ref l) (.ref b) false := fun prog w E Q want => by
  obtain ⟨⟨c2, d2, t2, s2⟩, ob2, e1, n2, e2⟩ := id hb
  simp only at e1 e2
  subst e1 e2
  have hne : l ≠ b := ne_of_dict (ys := #[]) hl ob2 (by simp)
  obtain ⟨dd, es, ep, sl, ob⟩ := hl
  exact rc_eq_decline_or (k := false) ⟨_, ob, rfl⟩ ⟨_, ob2, rfl⟩ (by decide) F.sub_tuple_dict F.slot_dict_eq F.slot_tuple_eq_refl
    (fun _ w2 => call_meets F.slot_dict_eq ⟨_, ob, rfl⟩ F.entry_dict_eq (F.args_dict_eq_2 _ _) (dict_eq_tuple l b es ep dd sl ys n2 d2 s2) ⟨ob, ob2, w2⟩)
    (fun _ w2 => call_meets F.slot_tuple_eq_refl ⟨_, ob2, rfl⟩ F.entry_tuple_eq (F.args_tuple_eq_2 _ _) (tuple_eq_dict b l es ep dd sl ys n2 d2 s2) ⟨ob2, ob, w2⟩)
    (fun _ w2 => wpAny_isSame_ref_other hne ob ob2 (by simp) w2) (.inr hu) want
theorem eq_tuple_dict_ {l b : Addr} {ys : Array Value} (hl : IsD s.heap l) (hb : s.heap.IsTuple b ys) (hu : A.units < cLine) : RcAt A s (.ref b) (.ref l) false := fun prog w E Q want => by
  obtain ⟨⟨c2, d2, t2, s2⟩, ob2, e1, n2, e2⟩ := id hb
  simp only at e1 e2
  subst e1 e2
  have hne : l ≠ b := ne_of_dict (ys := #[]) hl ob2 (by simp)
  obtain ⟨dd, es, ep, sl, ob⟩ := hl
  exact rc_eq_decline_or (k := false) ⟨_, ob2, rfl⟩ ⟨_, ob, rfl⟩ (by decide) F.sub_dict_tuple F.slot_tuple_eq F.slot_dict_eq_refl
    (fun _ w2 => call_meets F.slot_tuple_eq ⟨_, ob2, rfl⟩ F.entry_tuple_eq (F.args_tuple_eq_2 _ _) (tuple_eq_dict b l es ep dd sl ys n2 d2 s2) ⟨ob2, ob, w2⟩)
    (fun _ w2 => call_meets F.slot_dict_eq_refl ⟨_, ob, rfl⟩ F.entry_dict_eq (F.args_dict_eq_2 _ _) (dict_eq_tuple l b es ep dd sl ys n2 d2 s2) ⟨ob, ob2, w2⟩)
    (fun _ w2 => wpAny_isSame_ref_other' (Ne.symm hne) ob2 ob (by simp) w2) (.inr hu) want
theorem ne_dict_bool {l : Addr} (c : Bool) (hl : IsD s.heap l) (hu : A.units < cLine) : RcNeAt A s (.ref l) (.bool c) true := fun prog w E Q want => by
  obtain ⟨dd, es, ep, sl, ob⟩ := hl
  exact rc_ne_decline_or (k := false) ⟨_, ob, rfl⟩ rfl (by decide) F.sub_bool_dict F.slot_dict_ne F.slot_bool_ne_refl (fun _ w2 => call_meets F.slot_dict_ne ⟨_, ob, rfl⟩ F.entry_dict_ne (F.args_dict_ne_2 _ _) (dict_ne_bool l es ep dd sl c) ⟨ob, w2⟩)
    (fun _ w2 => call_meets F.slot_bool_ne_refl rfl F.entry_int_ne (F.args_int_ne_2 _ _) (bool_ne_dict c l es ep dd sl) ⟨ob, w2⟩)
    (fun _ w2 => wpAny_of_eq (rfl : isSame (.ref l) (.bool c) = pure false) w2) (.inr hu) want
theorem ne_bool_dict_ {l : Addr} (c : Bool) (hl : IsD s.heap l) (hu : A.units < cLine) : RcNeAt A s (.bool c) (.ref l) true := fun prog w E Q want => by
  obtain ⟨dd, es, ep, sl, ob⟩ := hl
  exact rc_ne_decline_or (k := false) rfl ⟨_, ob, rfl⟩ (by decide) F.sub_dict_bool F.slot_bool_ne F.slot_dict_ne_refl
    (fun _ w2 => call_meets F.slot_bool_ne rfl F.entry_int_ne (F.args_int_ne_2 _ _) (bool_ne_dict c l es ep dd sl) ⟨ob, w2⟩)
    (fun _ w2 => call_meets F.slot_dict_ne_refl ⟨_, ob, rfl⟩ F.entry_dict_ne (F.args_dict_ne_2 _ _) (dict_ne_bool l es ep dd sl c) ⟨ob, w2⟩)
    (fun _ w2 => wpAny_of_eq (rfl : isSame (.bool c) (.ref l) = pure false) w2) (.inr hu) want
theorem ne_dict_int {l : Addr} (c : Int) (u : Tok) (hl : IsD s.heap l) (hu : A.units < cLine) : RcNeAt A s (.ref l) (.int c u) true := fun prog w E Q want => by
  obtain ⟨dd, es, ep, sl, ob⟩ := hl
  exact rc_ne_decline_or (k := false) ⟨_, ob, rfl⟩ (typeIs_int s c u) (by decide) F.sub_int_dict F.slot_dict_ne F.slot_int_ne_refl (fun _ w2 => call_meets F.slot_dict_ne ⟨_, ob, rfl⟩ F.entry_dict_ne (F.args_dict_ne_2 _ _) (dict_ne_int l es ep dd sl c u) ⟨ob, w2⟩)
    (fun _ w2 => call_meets F.slot_int_ne_refl (typeIs_int s c u) F.entry_int_ne (F.args_int_ne_2 _ _) (int_ne_dict c u l es ep dd sl) ⟨ob, w2⟩)
    (fun _ w2 => wpAny_of_eq (rfl : isSame (.ref l) (.int c u) = pure false) w2) (.inr hu) want
theorem ne_int_dict_ {l : Addr} (c : Int) (u : Tok) (hl : IsD s.heap l) (hu : A.units < cLine) : RcNeAt A s (.int c u) (.ref l) true := fun prog w E Q want => by
  obtain ⟨dd, es, ep, sl, ob⟩ := hl
  exact rc_ne_decline_or (k := false) (typeIs_int s c u) ⟨_, ob, rfl⟩ (by decide) F.sub_dict_int F.slot_int_ne F.slot_dict_ne_refl
    (fun _ w2 => call_meets F.slot_int_ne (typeIs_int s c u) F.entry_int_ne (F.args_int_ne_2 _ _) (int_ne_dict c u l es ep dd sl) ⟨ob, w2⟩)
    (fun _ w2 => call_meets F.slot_dict_ne_refl ⟨_, ob, rfl⟩ F.entry_dict_ne (F.args_dict_ne_2 _ _) (dict_ne_int l es ep dd sl c u) ⟨ob, w2⟩)
    (fun _ w2 => wpAny_of_eq (rfl : isSame (.int c u) (.ref l) = pure false) w2) (.inr hu) want
theorem ne_dict_str {l : Addr} (c : Str) (u : Tok) (hl : IsD s.heap l) (hu : A.units < cLine) : RcNeAt A s (.ref l) (.str c u) true := fun prog w E Q want => by
  obtain ⟨dd, es, ep, sl, ob⟩ := hl
  exact rc_ne_decline_or (k := false) ⟨_, ob, rfl⟩ (typeIs_str s c u) (by decide) F.sub_str_dict F.slot_dict_ne F.slot_str_ne_refl (fun _ w2 => call_meets F.slot_dict_ne ⟨_, ob, rfl⟩ F.entry_dict_ne (F.args_dict_ne_2 _ _) (dict_ne_str l es ep dd sl c u) ⟨ob, w2⟩)
    (fun _ w2 => call_meets F.slot_str_ne_refl (typeIs_str s c u) F.entry_str_ne (F.args_str_ne_2 _ _) (str_ne_dict c u l es ep dd sl) ⟨ob, w2⟩)
    (fun _ w2 => wpAny_of_eq (rfl : isSame (.ref l) (.str c u) = pure false) w2) (.inr hu) want
theorem ne_str_dict_ {l : Addr} (c : Str) (u : Tok) (hl : IsD s.heap l) (hu : A.units < cLine) : RcNeAt A s (.str c u) (.ref l) true := fun prog w E Q want => by
  obtain ⟨dd, es, ep, sl, ob⟩ := hl
  exact rc_ne_decline_or (k := false) (typeIs_str s c u) ⟨_, ob, rfl⟩ (by decide) F.sub_dict_str F.slot_str_ne F.slot_dict_ne_refl
    (fun _ w2 => call_meets F.slot_str_ne (typeIs_str s c u) F.entry_str_ne (F.args_str_ne_2 _ _) (str_ne_dict c u l es ep dd sl) ⟨ob, w2⟩)
    (fun _ w2 => call_meets F.slot_dict_ne_refl ⟨_, ob, rfl⟩ F.entry_dict_ne (F.args_dict_ne_2 _ _) (dict_ne_str l es ep dd sl c u) ⟨ob, w2⟩)
    (fun _ w2 => wpAny_of_eq (rfl : isSame (.str c u) (.ref l) = pure false) w2) (.inr hu) want
theorem ne_dict_none {l : Addr}  (hl : IsD s.heap l) (hu : A.units < cLine) : RcNeAt A s (.ref l) (.none) true := fun prog w E Q want => by
  obtain ⟨dd, es, ep, sl, ob⟩ := hl
  exact rc_ne_decline_or (k := false) ⟨_, ob, rfl⟩ rfl (by decide) F.sub_NoneType_dict F.slot_dict_ne F.slot_NoneType_ne_refl (fun _ w2 => call_meets F.slot_dict_ne ⟨_, ob, rfl⟩ F.entry_dict_ne (F.args_dict_ne_2 _ _) (dict_ne_none l es ep dd sl ) ⟨ob, w2⟩)
    (fun _ w2 => call_gives F.slot_NoneType_ne_refl rfl F.entry_NoneType_ne (F.args_NoneType_ne_2 _ _) (NoneType___ne___none_ref_0 l) w2)
    (fun _ w2 => wpAny_of_eq (rfl : isSame (.ref l) (.none) = pure false) w2) (.inr hu) want
theorem ne_none_dict_ {l : Addr}  (hl : IsD s.heap l) (hu : A.units < cLine) : RcNeAt A s (.none) (.ref l) true := fun prog w E Q want => by
  obtain ⟨dd, es, ep, sl, ob⟩ := hl
  exact rc_ne_decline_or (k := false) rfl ⟨_, ob, rfl⟩ (by decide) F.sub_dict_NoneType F.slot_NoneType_ne F.slot_dict_ne_refl
    (fun _ w2 => call_gives F.slot_NoneType_ne rfl F.entry_NoneType_ne (F.args_NoneType_ne_2 _ _) (NoneType___ne___none_ref_0 l) w2)
    (fun _ w2 => call_meets F.slot_dict_ne_refl ⟨_, ob, rfl⟩ F.entry_dict_ne (F.args_dict_ne_2 _ _) (dict_ne_none l es ep dd sl ) ⟨ob, w2⟩)
    (fun _ w2 => wpAny_of_eq (rfl : isSame (.none) (.ref l) = pure false) w2) (.inr hu) want
theorem ne_dict_list {l b : Addr} {ys : Array Value} (hl : IsD s.heap l) (hb : s.heap.IsList b ys) (hu : A.units < cLine) : RcNeAt A s (.ref l) (.ref b) true := fun prog w E Q want => by
  obtain ⟨⟨c2, d2, t2, s2⟩, ob2, e1, n2, e2⟩ := id hb
  simp only at e1 e2
  subst e1 e2
  have hne : l ≠ b := ne_of_dict (ys := #[]) hl ob2 (by simp)
  obtain ⟨dd, es, ep, sl, ob⟩ := hl
  exact rc_ne_decline_or (k := false) ⟨_, ob, rfl⟩ ⟨_, ob2, rfl⟩ (by decide) F.sub_list_dict F.slot_dict_ne F.slot_list_ne_refl
    (fun _ w2 => call_meets F.slot_dict_ne ⟨_, ob, rfl⟩ F.entry_dict_ne (F.args_dict_ne_2 _ _) (dict_ne_list l b es ep dd sl ys n2 d2 s2) ⟨ob, ob2, w2⟩)
    (fun _ w2 => call_meets F.slot_list_ne_refl ⟨_, ob2, rfl⟩ F.entry_list_ne (F.args_list_ne_2 _ _) (list_ne_dict b l es ep dd sl ys n2 d2 s2) ⟨ob2, ob, w2⟩)
    (fun _ w2 => wpAny_isSame_ref_other' hne ob ob2 (by simp) w2) (.inr hu) want
theorem ne_list_dict_ {l b : Addr} {ys : Array Value} (hl : IsD s.heap l) (hb : s.heap.IsList b ys) (hu : A.units < cLine) : RcNeAt A s (.ref b) (.ref l) true := fun prog w E Q want => by
  obtain ⟨⟨c2, d2, t2, s2⟩, ob2, e1, n2, e2⟩ := id hb
  simp only at e1 e2
  subst e1 e2
  have hne : l ≠ b := ne_of_dict (ys := #[]) hl ob2 (by simp)
  obtain ⟨dd, es, ep, sl, ob⟩ := hl
  exact rc_ne_decline_or (k := false) ⟨_, ob2, rfl⟩ ⟨_, ob, rfl⟩ (by decide) F.sub_dict_list F.slot_list_ne F.slot_dict_ne_refl
    (fun _ w2 => call_meets F.slot_list_ne ⟨_, ob2, rfl⟩ F.entry_list_ne (F.args_list_ne_2 _ _) (list_ne_dict b l es ep dd sl ys n2 d2 s2) ⟨ob2, ob, w2⟩)
    (fun _ w2 => call_meets F.slot_dict_ne_refl ⟨_, ob, rfl⟩ F.entry_dict_ne (F.args_dict_ne_2 _ _) (dict_ne_list l b es ep dd sl ys n2 d2 s2) ⟨ob, ob2, w2⟩)
    (fun _ w2 => wpAny_isSame_ref_other' (Ne.symm hne) ob2 ob (by simp) w2) (.inr hu) want
theorem ne_dict_tuple {l b : Addr} {ys : Array Value} (hl : IsD s.heap l) (hb : s.heap.IsTuple b ys) (hu : A.units < cLine) : RcNeAt A s (.ref l) (.ref b) true := fun prog w E Q want => by
  obtain ⟨⟨c2, d2, t2, s2⟩, ob2, e1, n2, e2⟩ := id hb
  simp only at e1 e2
  subst e1 e2
  have hne : l ≠ b := ne_of_dict (ys := #[]) hl ob2 (by simp)
  obtain ⟨dd, es, ep, sl, ob⟩ := hl
  exact rc_ne_decline_or (k := false) ⟨_, ob, rfl⟩ ⟨_, ob2, rfl⟩ (by decide) F.sub_tuple_dict F.slot_dict_ne F.slot_tuple_ne_refl
    (fun _ w2 => call_meets F.slot_dict_ne ⟨_, ob, rfl⟩ F.entry_dict_ne (F.args_dict_ne_2 _ _) (dict_ne_tuple l b es ep dd sl ys n2 d2 s2) ⟨ob, ob2, w2⟩)
    (fun _ w2 => call_meets F.slot_tuple_ne_refl ⟨_, ob2, rfl⟩ F.entry_tuple_ne (F.args_tuple_ne_2 _ _) (tuple_ne_dict b l es ep dd sl ys n2 d2 s2) ⟨ob2, ob, w2⟩)
    (fun _ w2 => wpAny_isSame_ref_other hne ob ob2 (by simp) w2) (.inr hu) want
theorem ne_tuple_dict_ {l b : Addr} {ys : Array Value} (hl : IsD s.heap l) (hb : s.heap.IsTuple b ys) (hu : A.units < cLine) : RcNeAt A s (.ref b) (.ref l) true := fun prog w E Q want => by
  obtain ⟨⟨c2, d2, t2, s2⟩, ob2, e1, n2, e2⟩ := id hb
  simp only at e1 e2
  subst e1 e2
  have hne : l ≠ b := ne_of_dict (ys := #[]) hl ob2 (by simp)
  obtain ⟨dd, es, ep, sl, ob⟩ := hl
  exact rc_ne_decline_or (k := false) ⟨_, ob2, rfl⟩ ⟨_, ob, rfl⟩ (by decide) F.sub_dict_tuple F.slot_tuple_ne F.slot_dict_ne_refl
    (fun _ w2 => call_meets F.slot_tuple_ne ⟨_, ob2, rfl⟩ F.entry_tuple_ne (F.args_tuple_ne_2 _ _) (tuple_ne_dict b l es ep dd sl ys n2 d2 s2) ⟨ob2, ob, w2⟩)
    (fun _ w2 => call_meets F.slot_dict_ne_refl ⟨_, ob, rfl⟩ F.entry_dict_ne (F.args_dict_ne_2 _ _) (dict_ne_tuple l b es ep dd sl ys n2 d2 s2) ⟨ob, ob2, w2⟩)
    (fun _ w2 => wpAny_isSame_ref_other' (Ne.symm hne) ob2 ob (by simp) w2) (.inr hu) want
theorem at_dict_bool {l : Addr} (c : Bool) (hl : IsD s.heap l) (hu : A.units < cLine) : EqAt A s (.ref l) (.bool c) false := fun prog w E Q want => by
  unfold eqBool
  refine wpAny_holding ?_
  refine wpAny_ite_split (fun same => absurd (eq_of_beq same) nofun) (fun _ => ?_)
  exact wpAny_bind (eq_dict_bool c hl hu prog w E _ (wpAny_truthy_bool want))
theorem at_bool_dict {l : Addr} (c : Bool) (hl : IsD s.heap l) (hu : A.units < cLine) : EqAt A s (.bool c) (.ref l) false := fun prog w E Q want => by
  unfold eqBool
  refine wpAny_holding ?_
  refine wpAny_ite_split (fun same => absurd (eq_of_beq same) nofun) (fun _ => ?_)
  exact wpAny_bind (eq_bool_dict_ c hl hu prog w E _ (wpAny_truthy_bool want))
theorem at_dict_int {l : Addr} (c : Int) (u : Tok) (hl : IsD s.heap l) (hu : A.units < cLine) : EqAt A s (.ref l) (.int c u) false := fun prog w E Q want => by
  unfold eqBool
  refine wpAny_holding ?_
  refine wpAny_ite_split (fun same => absurd (eq_of_beq same) nofun) (fun _ => ?_)
  exact wpAny_bind (eq_dict_int c u hl hu prog w E _ (wpAny_truthy_bool want))
theorem at_int_dict {l : Addr} (c : Int) (u : Tok) (hl : IsD s.heap l) (hu : A.units < cLine) : EqAt A s (.int c u) (.ref l) false := fun prog w E Q want => by
  unfold eqBool
  refine wpAny_holding ?_
  refine wpAny_ite_split (fun same => absurd (eq_of_beq same) nofun) (fun _ => ?_)
  exact wpAny_bind (eq_int_dict_ c u hl hu prog w E _ (wpAny_truthy_bool want))
theorem at_dict_str {l : Addr} (c : Str) (u : Tok) (hl : IsD s.heap l) (hu : A.units < cLine) : EqAt A s (.ref l) (.str c u) false := fun prog w E Q want => by
  unfold eqBool
  refine wpAny_holding ?_
  refine wpAny_ite_split (fun same => absurd (eq_of_beq same) nofun) (fun _ => ?_)
  exact wpAny_bind (eq_dict_str c u hl hu prog w E _ (wpAny_truthy_bool want))
theorem at_str_dict {l : Addr} (c : Str) (u : Tok) (hl : IsD s.heap l) (hu : A.units < cLine) : EqAt A s (.str c u) (.ref l) false := fun prog w E Q want => by
  unfold eqBool
  refine wpAny_holding ?_
  refine wpAny_ite_split (fun same => absurd (eq_of_beq same) nofun) (fun _ => ?_)
  exact wpAny_bind (eq_str_dict_ c u hl hu prog w E _ (wpAny_truthy_bool want))
theorem at_dict_none {l : Addr}  (hl : IsD s.heap l) (hu : A.units < cLine) : EqAt A s (.ref l) (.none) false := fun prog w E Q want => by
  unfold eqBool
  refine wpAny_holding ?_
  refine wpAny_ite_split (fun same => absurd (eq_of_beq same) nofun) (fun _ => ?_)
  exact wpAny_bind (eq_dict_none  hl hu prog w E _ (wpAny_truthy_bool want))
theorem at_none_dict {l : Addr}  (hl : IsD s.heap l) (hu : A.units < cLine) : EqAt A s (.none) (.ref l) false := fun prog w E Q want => by
  unfold eqBool
  refine wpAny_holding ?_
  refine wpAny_ite_split (fun same => absurd (eq_of_beq same) nofun) (fun _ => ?_)
  exact wpAny_bind (eq_none_dict_  hl hu prog w E _ (wpAny_truthy_bool want))
theorem apart_list {l b : Addr} {ys : Array Value} (hl : IsD s.heap l) (hb : s.heap.IsList b ys) : l ≠ b := by
  obtain ⟨o2, ob2, e1, _⟩ := hb
  exact ne_of_dict (ys := #[]) hl ob2 (by rw [e1]; simp)
theorem at_dict_list {l b : Addr} {ys : Array Value} (hl : IsD s.heap l) (hb : s.heap.IsList b ys) (hu : A.units < cLine) : EqAt A s (.ref l) (.ref b) false := .of_refs (apart_list hl hb) (eq_dict_list hl hb hu)
theorem at_list_dict {l b : Addr} {ys : Array Value} (hl : IsD s.heap l) (hb : s.heap.IsList b ys) (hu : A.units < cLine) : EqAt A s (.ref b) (.ref l) false := .of_refs (Ne.symm (apart_list hl hb)) (eq_list_dict_ hl hb hu)
theorem apart_tuple {l b : Addr} {ys : Array Value} (hl : IsD s.heap l) (hb : s.heap.IsTuple b ys) : l ≠ b := by
  obtain ⟨o2, ob2, e1, _⟩ := hb
  exact ne_of_dict (ys := #[]) hl ob2 (by rw [e1]; simp)
theorem at_dict_tuple {l b : Addr} {ys : Array Value} (hl : IsD s.heap l) (hb : s.heap.IsTuple b ys) (hu : A.units < cLine) : EqAt A s (.ref l) (.ref b) false := .of_refs (apart_tuple hl hb) (eq_dict_tuple hl hb hu)
theorem at_tuple_dict {l b : Addr} {ys : Array Value} (hl : IsD s.heap l) (hb : s.heap.IsTuple b ys) (hu : A.units < cLine) : EqAt A s (.ref b) (.ref l) false := .of_refs (Ne.symm (apart_tuple hl hb)) (eq_tuple_dict_ hl hb hu)
end
end Pz

namespace Pz
open PySem PySem.Spec PyProof.Rows L2 MeetsSeq SeqAt
mutual
/-- no dict but empty ones -/
def pl0 : PyData → Bool
  | .list ds | .tuple ds => pl0s ds
  | .dict kvs => kvs.isEmpty
  | _ => true
def pl0s : List PyData → Bool
  | [] => true
  | d :: ds => pl0 d && pl0s ds
end
mutual
theorem pl0_plain : ∀ d : PyData, d.plain = true → pl0 d = true
  | .none, _ | .bool _, _ | .int _, _ | .str _, _ => rfl
  | .list ds, h => pl0s_plain ds h
  | .tuple ds, h => pl0s_plain ds h
  | .dict _, h => nomatch h
theorem pl0s_plain : ∀ ds : List PyData, PyData.plainAll ds = true → pl0s ds = true
  | [], _ => rfl
  | d :: ds, h => by
    simp only [PyData.plainAll, Bool.and_eq_true] at h
    simp only [pl0s, pl0_plain d h.1, pl0s_plain ds h.2, Bool.and_self]
end
/-- which pairs are compared: dicts on one side at most -/
def Cm (d e : PyData) : Prop := (pl0 d = true ∧ e.plain = true) ∨ (d.plain = true ∧ pl0 e = true)
def Cms (ds es : List PyData) : Prop := (pl0s ds = true ∧ PyData.plainAll es = true) ∨ (PyData.plainAll ds = true ∧ pl0s es = true)
theorem Cms.head {d e : PyData} {ds es : List PyData} (h : Cms (d :: ds) (e :: es)) : Cm d e ∧ Cms ds es := by
  simp only [Cms, pl0s, PyData.plainAll, Bool.and_eq_true] at h
  rcases h with ⟨⟨a, b⟩, c, d⟩ | ⟨⟨a, b⟩, c, d⟩
  · exact ⟨.inl ⟨a, c⟩, .inl ⟨b, d⟩⟩
  · exact ⟨.inr ⟨a, c⟩, .inr ⟨b, d⟩⟩
theorem isD_of {hp : Heap} {l : Addr} {o : Obj} {es : Array DictEntry} {ep : Nat} (h : hp.get? l = some o) (hc : o.cls = .type "dict") (hd : o.data = .dict es ep) : IsD hp l := by
  obtain ⟨c, dd, dt, sl⟩ := o
  simp only at hc hd
  subst hc hd
  exact ⟨dd, es, ep, sl, h⟩
theorem same_data {hp : Heap} {v : Value} {d e : PyData} {as bs : List Addr} (h : d.plain = true ∨ e.plain = true) (r1 : Reads hp v d as) (r2 : Reads hp v e bs) : d = e := by
  rcases h with h | h
  · exact plain_unique d e v as bs h r1 r2
  · exact (plain_unique e d v bs as h r2 r1).symm
theorem Cm.one {d e : PyData} (h : Cm d e) : d.plain = true ∨ e.plain = true := h.elim (fun q => .inr q.2) fun q => .inl q.1
mutual
theorem at_d : ∀ (da db : PyData) (A : Around) (s : Shared) (a b : Value) (as bs : List Addr), Reads s.heap a da as → Reads s.heap b db bs → Cm da db →
    A.units + min da.depth db.depth < cLine → EqAt A s a b (PyData.eqv da db)
  | .none, _, A, s, _, _, _, _, ra, rb, cm, hu => by
    cases ra
    cases rb with
    | none => exact EqAt.same _
    | bool y => exact EqAt.none_bool y
    | int y u => exact EqAt.none_int y u
    | str y u => exact EqAt.none_str y u
    | list q1 q2 q3 q4 => exact EqAt.none_list ⟨_, q1, q2, _, q3⟩ (room_here hu)
    | tuple q1 q2 q3 q4 => exact EqAt.none_tuple ⟨_, q1, q2, _, q3⟩ (room_here hu)
    | dict q1 q2 q3 _ _ => exact at_none_dict (isD_of q1 q2 q3) (room_here hu)
  | .bool x, _, A, s, _, _, _, _, ra, rb, cm, hu => by
    cases ra
    cases rb with
    | none => exact EqAt.bool_none x
    | bool y => exact EqAt.bool_bool x y
    | int y u => exact EqAt.bool_int x y u
    | str y u => exact EqAt.bool_str x y u
    | list q1 q2 q3 q4 => exact EqAt.bool_list x ⟨_, q1, q2, _, q3⟩ (room_here hu)
    | tuple q1 q2 q3 q4 => exact EqAt.bool_tuple x ⟨_, q1, q2, _, q3⟩ (room_here hu)
    | dict q1 q2 q3 _ _ => exact at_bool_dict x (isD_of q1 q2 q3) (room_here hu)
  | .int x, _, A, s, _, _, _, _, ra, rb, cm, hu => by
    cases ra with
    | int _ t =>
      cases rb with
      | none => exact EqAt.int_none x t
      | bool y => exact EqAt.int_bool x t y
      | int y u => exact EqAt.int_int x t y u
      | str y u => exact EqAt.int_str x t y u
      | list q1 q2 q3 q4 => exact EqAt.int_list x t ⟨_, q1, q2, _, q3⟩ (room_here hu)
      | tuple q1 q2 q3 q4 => exact EqAt.int_tuple x t ⟨_, q1, q2, _, q3⟩ (room_here hu)
      | dict q1 q2 q3 _ _ => exact at_int_dict x t (isD_of q1 q2 q3) (room_here hu)
  | .str x, _, A, s, _, _, _, _, ra, rb, cm, hu => by
    cases ra with
    | str _ t =>
      cases rb with
      | none => exact EqAt.str_none x t
      | bool y => exact EqAt.str_bool x t y
      | int y u => exact EqAt.str_int x t y u
      | str y u => exact EqAt.str_str x t y u
      | list q1 q2 q3 q4 => exact EqAt.str_list x t ⟨_, q1, q2, _, q3⟩ (room_here hu)
      | tuple q1 q2 q3 q4 => exact EqAt.str_tuple x t ⟨_, q1, q2, _, q3⟩ (room_here hu)
      | dict q1 q2 q3 _ _ => exact at_str_dict x t (isD_of q1 q2 q3) (room_here hu)
  | .list xs, db, A, s, _, _, _, _, ra, rb, cm, hu => by
    cases ra with
    | @list l o vs n _ as₁ p1 p2 p3 p4 =>
      have hL : s.heap.IsList l vs := ⟨_, p1, p2, _, p3⟩
      cases rb with
      | none => exact EqAt.list_none hL (room_here hu)
      | bool y => exact EqAt.list_bool y hL (room_here hu)
      | int y u => exact EqAt.list_int y u hL (room_here hu)
      | str y u => exact EqAt.list_str y u hL (room_here hu)
      | tuple q1 q2 q3 q4 => exact EqAt.list_tuple hL ⟨_, q1, q2, _, q3⟩ (room_here hu)
      | dict q1 q2 q3 _ _ => exact at_list_dict (isD_of q1 q2 q3) hL (room_here hu)
      | @list l2 o2 ws n2 ys bs₁ q1 q2 q3 q4 =>
        have hR : s.heap.IsList l2 ws := ⟨_, q1, q2, _, q3⟩
        have z1 : vs.size = xs.length := by simpa using ReadsAll.length _ _ _ p4
        have z2 : ws.size = ys.length := by simpa using ReadsAll.length _ _ _ q4
        have cms : Cms xs ys := cm
        show EqAt A s (.ref l) (.ref l2) (PyData.eqvAll xs ys)
        by_cases one : l = l2
        · subst one
          have e : PyData.list xs = PyData.list ys := same_data cm.one (.list p1 p2 p3 p4) (.list q1 q2 q3 q4)
          injection e with e
          subst e
          rw [eqvAll_refl_plain xs (by rcases cm.one with z | z <;> exact z)]
          exact EqAt.same _
        · by_cases hsz : vs.size = ws.size
          · rw [← eqvAll_same_length (by omega : xs.length = ys.length), ← z1]
            refine EqAt.of_refs one (RcAt.lists hL hR hsz (room_here hu) fun j j1 j2 => ?_)
            have e := at_ds xs ys A.in1 s vs.toList ws.toList _ _ p4 q4 cms (room_in hu) j (by simpa using j1) (by simpa using j2)
            simpa using e
          · rw [eqvAll_other_length (by omega : xs.length ≠ ys.length)]
            exact EqAt.of_refs one (RcAt.lists_lengths hL hR (by simpa using hsz) (room_here hu))
  | .tuple xs, db, A, s, _, _, _, _, ra, rb, cm, hu => by
    cases ra with
    | @tuple l o vs n _ as₁ p1 p2 p3 p4 =>
      have hL : s.heap.IsTuple l vs := ⟨_, p1, p2, _, p3⟩
      cases rb with
      | none => exact EqAt.tuple_none hL (room_here hu)
      | bool y => exact EqAt.tuple_bool y hL (room_here hu)
      | int y u => exact EqAt.tuple_int y u hL (room_here hu)
      | str y u => exact EqAt.tuple_str y u hL (room_here hu)
      | list q1 q2 q3 q4 => exact EqAt.tuple_list hL ⟨_, q1, q2, _, q3⟩ (room_here hu)
      | dict q1 q2 q3 _ _ => exact at_tuple_dict (isD_of q1 q2 q3) hL (room_here hu)
      | @tuple l2 o2 ws n2 ys bs₁ q1 q2 q3 q4 =>
        have hR : s.heap.IsTuple l2 ws := ⟨_, q1, q2, _, q3⟩
        have z1 : vs.size = xs.length := by simpa using ReadsAll.length _ _ _ p4
        have z2 : ws.size = ys.length := by simpa using ReadsAll.length _ _ _ q4
        have cms : Cms xs ys := cm
        show EqAt A s (.ref l) (.ref l2) (PyData.eqvAll xs ys)
        by_cases one : l = l2
        · subst one
          have e : PyData.tuple xs = PyData.tuple ys := same_data cm.one (.tuple p1 p2 p3 p4) (.tuple q1 q2 q3 q4)
          injection e with e
          subst e
          rw [eqvAll_refl_plain xs (by rcases cm.one with z | z <;> exact z)]
          exact EqAt.same _
        · rw [← eqvAll_eq xs ys, ← z1, ← z2]
          refine EqAt.of_refs one (RcAt.tuples hL hR (room_here hu) fun j j1 j2 => ?_)
          have e := at_ds xs ys A.in1 s vs.toList ws.toList _ _ p4 q4 cms (room_in hu) j (by simpa using j1) (by simpa using j2)
          simpa using e
  | .dict kv, db, A, s, _, _, _, _, ra, rb, cm, hu => by
    cases ra with
    | dict p1 p2 p3 _ _ =>
      have hD := isD_of p1 p2 p3
      cases rb with
      | none => exact at_dict_none hD (room_here hu)
      | bool y => exact at_dict_bool y hD (room_here hu)
      | int y u => exact at_dict_int y u hD (room_here hu)
      | str y u => exact at_dict_str y u hD (room_here hu)
      | list q1 q2 q3 q4 => exact at_dict_list hD ⟨_, q1, q2, _, q3⟩ (room_here hu)
      | tuple q1 q2 q3 q4 => exact at_dict_tuple hD ⟨_, q1, q2, _, q3⟩ (room_here hu)
      | dict => rcases cm with ⟨_, z⟩ | ⟨z, _⟩ <;> exact nomatch z
theorem at_ds : ∀ (xs ys : List PyData) (A : Around) (s : Shared) (vs ws : List Value) (as bs : List Addr), ReadsAll s.heap vs xs as → ReadsAll s.heap ws ys bs → Cms xs ys →
    A.units + min (PyData.depthAll xs) (PyData.depthAll ys) < cLine → ∀ j (h1 : j < vs.length) (h2 : j < ws.length), EqAt A s vs[j] ws[j] (pairEq xs ys j)
  | [], _, _, _, _, _, _, _, ra, _, _, _, j, h1, _ => by cases ra; exact absurd h1 (Nat.not_lt_zero _)
  | _ :: _, [], _, _, _, _, _, _, _, rb, _, _, j, _, h2 => by cases rb; exact absurd h2 (Nat.not_lt_zero _)
  | x :: xs, y :: ys, A, s, _, _, _, _, ra, rb, cm, hu, j, h1, h2 => by
    cases ra with
    | cons r rs =>
      cases rb with
      | cons r2 rs2 =>
        cases j with
        | zero => exact at_d x y A s _ _ _ _ r r2 cm.head.1 (room_head hu)
        | succ j => exact at_ds xs ys A s _ _ _ _ rs rs2 cm.head.2 (room_tail hu) j (Nat.lt_of_succ_lt_succ h1) (Nat.lt_of_succ_lt_succ h2)
end
theorem eq_d {da db : PyData} {A : Around} {s : Shared} {a b : Value} {as bs : List Addr} (ra : Reads s.heap a da as) (rb : Reads s.heap b db bs) (cm : Cm da db) (hu : A.units + min da.depth db.depth < cLine) : RcAt A s a b (PyData.eqv da db) := by
  cases ra with
  | none =>
    cases rb with
    | none => exact RcAt.none_none
    | bool y => exact RcAt.none_bool y
    | int y u => exact RcAt.none_int y u
    | str y u => exact RcAt.none_str y u
    | list q1 q2 q3 q4 => exact RcAt.none_list ⟨_, q1, q2, _, q3⟩ (room_here hu)
    | tuple q1 q2 q3 q4 => exact RcAt.none_tuple ⟨_, q1, q2, _, q3⟩ (room_here hu)
    | dict q1 q2 q3 _ _ => exact eq_none_dict_ (isD_of q1 q2 q3) (room_here hu)
  | bool x =>
    cases rb with
    | none => exact RcAt.bool_none x
    | bool y => exact RcAt.bool_bool x y
    | int y u => exact RcAt.bool_int x y u
    | str y u => exact RcAt.bool_str x y u
    | list q1 q2 q3 q4 => exact RcAt.bool_list x ⟨_, q1, q2, _, q3⟩ (room_here hu)
    | tuple q1 q2 q3 q4 => exact RcAt.bool_tuple x ⟨_, q1, q2, _, q3⟩ (room_here hu)
    | dict q1 q2 q3 _ _ => exact eq_bool_dict_ x (isD_of q1 q2 q3) (room_here hu)
  | int x t =>
    cases rb with
    | none => exact RcAt.int_none x t
    | bool y => exact RcAt.int_bool x t y
    | int y u => exact RcAt.int_int x t y u
    | str y u => exact RcAt.int_str x t y u
    | list q1 q2 q3 q4 => exact RcAt.int_list x t ⟨_, q1, q2, _, q3⟩ (room_here hu)
    | tuple q1 q2 q3 q4 => exact RcAt.int_tuple x t ⟨_, q1, q2, _, q3⟩ (room_here hu)
    | dict q1 q2 q3 _ _ => exact eq_int_dict_ x t (isD_of q1 q2 q3) (room_here hu)
  | str x t =>
    cases rb with
    | none => exact RcAt.str_none x t
    | bool y => exact RcAt.str_bool x t y
    | int y u => exact RcAt.str_int x t y u
    | str y u => exact RcAt.str_str x t y u
    | list q1 q2 q3 q4 => exact RcAt.str_list x t ⟨_, q1, q2, _, q3⟩ (room_here hu)
    | tuple q1 q2 q3 q4 => exact RcAt.str_tuple x t ⟨_, q1, q2, _, q3⟩ (room_here hu)
    | dict q1 q2 q3 _ _ => exact eq_str_dict_ x t (isD_of q1 q2 q3) (room_here hu)
  | @list l o vs n xs as₁ p1 p2 p3 p4 =>
    have hL : s.heap.IsList l vs := ⟨_, p1, p2, _, p3⟩
    cases rb with
    | none => exact RcAt.list_none hL (room_here hu)
    | bool y => exact RcAt.list_bool y hL (room_here hu)
    | int y u => exact RcAt.list_int y u hL (room_here hu)
    | str y u => exact RcAt.list_str y u hL (room_here hu)
    | tuple q1 q2 q3 q4 => exact RcAt.list_tuple hL ⟨_, q1, q2, _, q3⟩ (room_here hu)
    | dict q1 q2 q3 _ _ => exact eq_list_dict_ (isD_of q1 q2 q3) hL (room_here hu)
    | @list l2 o2 ws n2 ys bs₁ q1 q2 q3 q4 =>
      have hR : s.heap.IsList l2 ws := ⟨_, q1, q2, _, q3⟩
      have z1 : vs.size = xs.length := by simpa using ReadsAll.length _ _ _ p4
      have z2 : ws.size = ys.length := by simpa using ReadsAll.length _ _ _ q4
      have each : ∀ j (j1 : j < vs.size) (j2 : j < ws.size), EqAt A.in1 s vs[j] ws[j] (pairEq xs ys j) := fun j j1 j2 => by
        have e := at_ds xs ys A.in1 s vs.toList ws.toList _ _ p4 q4 cm (room_in hu) j (by simpa using j1) (by simpa using j2)
        simpa using e
      show RcAt A s (.ref l) (.ref l2) (PyData.eqvAll xs ys)
      by_cases hsz : vs.size = ws.size
      · rw [← eqvAll_same_length (by omega : xs.length = ys.length), ← z1]
        exact RcAt.lists hL hR hsz (room_here hu) each
      · rw [eqvAll_other_length (by omega : xs.length ≠ ys.length)]
        exact RcAt.lists_lengths hL hR (by simpa using hsz) (room_here hu)
  | @tuple l o vs n xs as₁ p1 p2 p3 p4 =>
    have hL : s.heap.IsTuple l vs := ⟨_, p1, p2, _, p3⟩
    cases rb with
    | none => exact RcAt.tuple_none hL (room_here hu)
    | bool y => exact RcAt.tuple_bool y hL (room_here hu)
    | int y u => exact RcAt.tuple_int y u hL (room_here hu)
    | str y u => exact RcAt.tuple_str y u hL (room_here hu)
    | list q1 q2 q3 q4 => exact RcAt.tuple_list hL ⟨_, q1, q2, _, q3⟩ (room_here hu)
    | dict q1 q2 q3 _ _ => exact eq_tuple_dict_ (isD_of q1 q2 q3) hL (room_here hu)
    | @tuple l2 o2 ws n2 ys bs₁ q1 q2 q3 q4 =>
      have hR : s.heap.IsTuple l2 ws := ⟨_, q1, q2, _, q3⟩
      have z1 : vs.size = xs.length := by simpa using ReadsAll.length _ _ _ p4
      have z2 : ws.size = ys.length := by simpa using ReadsAll.length _ _ _ q4
      have each : ∀ j (j1 : j < vs.size) (j2 : j < ws.size), EqAt A.in1 s vs[j] ws[j] (pairEq xs ys j) := fun j j1 j2 => by
        have e := at_ds xs ys A.in1 s vs.toList ws.toList _ _ p4 q4 cm (room_in hu) j (by simpa using j1) (by simpa using j2)
        simpa using e
      show RcAt A s (.ref l) (.ref l2) (PyData.eqvAll xs ys)
      rw [← eqvAll_eq xs ys, ← z1, ← z2]
      exact RcAt.tuples hL hR (room_here hu) each
  | dict p1 p2 p3 _ _ =>
    have hD := isD_of p1 p2 p3
    cases rb with
    | none => exact eq_dict_none hD (room_here hu)
    | bool y => exact eq_dict_bool y hD (room_here hu)
    | int y u => exact eq_dict_int y u hD (room_here hu)
    | str y u => exact eq_dict_str y u hD (room_here hu)
    | list q1 q2 q3 q4 => exact eq_dict_list hD ⟨_, q1, q2, _, q3⟩ (room_here hu)
    | tuple q1 q2 q3 q4 => exact eq_dict_tuple hD ⟨_, q1, q2, _, q3⟩ (room_here hu)
    | dict => rcases cm with ⟨_, z⟩ | ⟨z, _⟩ <;> exact nomatch z
theorem ne_d {da db : PyData} {A : Around} {s : Shared} {a b : Value} {as bs : List Addr} (ra : Reads s.heap a da as) (rb : Reads s.heap b db bs) (cm : Cm da db) (hu : A.units + min da.depth db.depth < cLine) : RcNeAt A s a b (!PyData.eqv da db) := by
  cases ra with
  | none =>
    cases rb with
    | none => exact RcNeAt.none_none
    | bool y => exact RcNeAt.none_bool y
    | int y u => exact RcNeAt.none_int y u
    | str y u => exact RcNeAt.none_str y u
    | list q1 q2 q3 q4 => exact RcNeAt.none_list ⟨_, q1, q2, _, q3⟩ (room_here hu)
    | tuple q1 q2 q3 q4 => exact RcNeAt.none_tuple ⟨_, q1, q2, _, q3⟩ (room_here hu)
    | dict q1 q2 q3 _ _ => exact ne_none_dict_ (isD_of q1 q2 q3) (room_here hu)
  | bool x =>
    cases rb with
    | none => exact RcNeAt.bool_none x
    | bool y => exact RcNeAt.bool_bool x y
    | int y u => exact RcNeAt.bool_int x y u
    | str y u => exact RcNeAt.bool_str x y u
    | list q1 q2 q3 q4 => exact RcNeAt.bool_list x ⟨_, q1, q2, _, q3⟩ (room_here hu)
    | tuple q1 q2 q3 q4 => exact RcNeAt.bool_tuple x ⟨_, q1, q2, _, q3⟩ (room_here hu)
    | dict q1 q2 q3 _ _ => exact ne_bool_dict_ x (isD_of q1 q2 q3) (room_here hu)
  | int x t =>
    cases rb with
    | none => exact RcNeAt.int_none x t
    | bool y => exact RcNeAt.int_bool x t y
    | int y u => exact RcNeAt.int_int x t y u
    | str y u => exact RcNeAt.int_str x t y u
    | list q1 q2 q3 q4 => exact RcNeAt.int_list x t ⟨_, q1, q2, _, q3⟩ (room_here hu)
    | tuple q1 q2 q3 q4 => exact RcNeAt.int_tuple x t ⟨_, q1, q2, _, q3⟩ (room_here hu)
    | dict q1 q2 q3 _ _ => exact ne_int_dict_ x t (isD_of q1 q2 q3) (room_here hu)
  | str x t =>
    cases rb with
    | none => exact RcNeAt.str_none x t
    | bool y => exact RcNeAt.str_bool x t y
    | int y u => exact RcNeAt.str_int x t y u
    | str y u => exact RcNeAt.str_str x t y u
    | list q1 q2 q3 q4 => exact RcNeAt.str_list x t ⟨_, q1, q2, _, q3⟩ (room_here hu)
    | tuple q1 q2 q3 q4 => exact RcNeAt.str_tuple x t ⟨_, q1, q2, _, q3⟩ (room_here hu)
    | dict q1 q2 q3 _ _ => exact ne_str_dict_ x t (isD_of q1 q2 q3) (room_here hu)
  | @list l o vs n xs as₁ p1 p2 p3 p4 =>
    have hL : s.heap.IsList l vs := ⟨_, p1, p2, _, p3⟩
    cases rb with
    | none => exact RcNeAt.list_none hL (room_here hu)
    | bool y => exact RcNeAt.list_bool y hL (room_here hu)
    | int y u => exact RcNeAt.list_int y u hL (room_here hu)
    | str y u => exact RcNeAt.list_str y u hL (room_here hu)
    | tuple q1 q2 q3 q4 => exact RcNeAt.list_tuple hL ⟨_, q1, q2, _, q3⟩ (room_here hu)
    | dict q1 q2 q3 _ _ => exact ne_list_dict_ (isD_of q1 q2 q3) hL (room_here hu)
    | @list l2 o2 ws n2 ys bs₁ q1 q2 q3 q4 =>
      have hR : s.heap.IsList l2 ws := ⟨_, q1, q2, _, q3⟩
      have z1 : vs.size = xs.length := by simpa using ReadsAll.length _ _ _ p4
      have z2 : ws.size = ys.length := by simpa using ReadsAll.length _ _ _ q4
      have each : ∀ j (j1 : j < vs.size) (j2 : j < ws.size), EqAt A.in1 s vs[j] ws[j] (pairEq xs ys j) := fun j j1 j2 => by
        have e := at_ds xs ys A.in1 s vs.toList ws.toList _ _ p4 q4 cm (room_in hu) j (by simpa using j1) (by simpa using j2)
        simpa using e
      show RcNeAt A s (.ref l) (.ref l2) (!PyData.eqvAll xs ys)
      by_cases hsz : vs.size = ws.size
      · rw [← eqvAll_same_length (by omega : xs.length = ys.length), ← z1]
        exact RcNeAt.lists hL hR hsz (room_here hu) each
      · rw [eqvAll_other_length (by omega : xs.length ≠ ys.length)]
        exact RcNeAt.lists_lengths hL hR (by simpa using hsz) (room_here hu)
  | @tuple l o vs n xs as₁ p1 p2 p3 p4 =>
    have hL : s.heap.IsTuple l vs := ⟨_, p1, p2, _, p3⟩
    cases rb with
    | none => exact RcNeAt.tuple_none hL (room_here hu)
    | bool y => exact RcNeAt.tuple_bool y hL (room_here hu)
    | int y u => exact RcNeAt.tuple_int y u hL (room_here hu)
    | str y u => exact RcNeAt.tuple_str y u hL (room_here hu)
    | list q1 q2 q3 q4 => exact RcNeAt.tuple_list hL ⟨_, q1, q2, _, q3⟩ (room_here hu)
    | dict q1 q2 q3 _ _ => exact ne_tuple_dict_ (isD_of q1 q2 q3) hL (room_here hu)
    | @tuple l2 o2 ws n2 ys bs₁ q1 q2 q3 q4 =>
      have hR : s.heap.IsTuple l2 ws := ⟨_, q1, q2, _, q3⟩
      have z1 : vs.size = xs.length := by simpa using ReadsAll.length _ _ _ p4
      have z2 : ws.size = ys.length := by simpa using ReadsAll.length _ _ _ q4
      have each : ∀ j (j1 : j < vs.size) (j2 : j < ws.size), EqAt A.in1 s vs[j] ws[j] (pairEq xs ys j) := fun j j1 j2 => by
        have e := at_ds xs ys A.in1 s vs.toList ws.toList _ _ p4 q4 cm (room_in hu) j (by simpa using j1) (by simpa using j2)
        simpa using e
      show RcNeAt A s (.ref l) (.ref l2) (!PyData.eqvAll xs ys)
      rw [← eqvAll_eq xs ys, ← z1, ← z2]
      exact RcNeAt.tuples hL hR (room_here hu) each
  | dict p1 p2 p3 _ _ =>
    have hD := isD_of p1 p2 p3
    cases rb with
    | none => exact ne_dict_none hD (room_here hu)
    | bool y => exact ne_dict_bool y hD (room_here hu)
    | int y u => exact ne_dict_int y u hD (room_here hu)
    | str y u => exact ne_dict_str y u hD (room_here hu)
    | list q1 q2 q3 q4 => exact ne_dict_list hD ⟨_, q1, q2, _, q3⟩ (room_here hu)
    | tuple q1 q2 q3 q4 => exact ne_dict_tuple hD ⟨_, q1, q2, _, q3⟩ (room_here hu)
    | dict => rcases cm with ⟨_, z⟩ | ⟨z, _⟩ <;> exact nomatch z
end Pz

namespace Pz
open PySem PySem.Spec PyProof.Rows L2

section
variable {α β γ δ κ ρ ι : Type} {ea : α → PyData} {eb : β → PyData} {ec : γ → PyData} {er : ρ → PyData} {ei : ι → PyData} {X : Cx} {R : Res} {Γ Γ' : List Slot} {e a b c : Expr} {st : Stmt} {rest A B body : List Stmt} {pos : Pos} {out : κ → OutD}
/-! ### comparing data, empty dicts among them -/
def cmB (d e : PyData) : Bool := (pl0 d && e.plain) || (d.plain && pl0 e)
theorem cmB_of {d e : PyData} (h : cmB d e = true) : Cm d e := by
  unfold cmB at h
  rw [Bool.or_eq_true, Bool.and_eq_true, Bool.and_eq_true] at h
  exact h
def rEqZ : R2 := fun x y H Q => ∃ A d e, Rp A H x d ∧ Rp A H y e ∧ Cm d e ∧ d.depth ≤ 60 ∧ Q (.bl (PyData.eqv d e)) H
def rNeZ : R2 := fun x y H Q => ∃ A d e, Rp A H x d ∧ Rp A H y e ∧ Cm d e ∧ d.depth ≤ 60 ∧ Q (.bl (!PyData.eqv d e)) H
theorem op_eqZ (hu : X.A.units + 64 < cLine) : OpR X (compareOp .Eq) rEqZ := fun pins s σ H x y v u Q I rx ry h => by
  obtain ⟨A, d, e, hd, he, cm, dp, q⟩ := h
  obtain ⟨as, r1, _⟩ := Rp.reads I d x v hd rx
  obtain ⟨bs, r2, _⟩ := Rp.reads I e y u he ry
  exact eq_d r1 r2 cm (by omega) _ _ _ _ ⟨.bl _, H, I, rfl, q⟩
theorem op_neZ (hu : X.A.units + 64 < cLine) : OpR X (compareOp .NotEq) rNeZ := fun pins s σ H x y v u Q I rx ry h => by
  obtain ⟨A, d, e, hd, he, cm, dp, q⟩ := h
  obtain ⟨as, r1, _⟩ := Rp.reads I d x v hd rx
  obtain ⟨bs, r2, _⟩ := Rp.reads I e y u he ry
  exact ne_d r1 r2 cm (by omega) _ _ _ _ ⟨.bl _, H, I, rfl, q⟩
def eqZ (d e : PyData) : Option Bool := if cmB d e = true ∧ d.depth ≤ 60 then some (PyData.eqv d e) else none
theorem v_eqZ : VOp rEqZ ea eb eBool (fun x y => eqZ (ea x) (eb y)) := fun A H x y vx vy Q z ad r1 r2 e q => by
  obtain ⟨⟨h1, h3⟩, rfl⟩ := oif e
  exact ⟨A, _, _, r1, r2, cmB_of h1, h3, q _ H (Same.refl H) (.bl _)⟩
theorem v_neZ : VOp rNeZ ea eb eBool (fun x y => (eqZ (ea x) (eb y)).map (!·)) := fun A H x y vx vy Q z ad r1 r2 e q => by
  obtain ⟨b, e1, rfl⟩ := Option.map_eq_some_iff.mp e
  obtain ⟨⟨h1, h3⟩, rfl⟩ := oif e1
  exact ⟨A, _, _, r1, r2, cmB_of h1, h3, q _ H (Same.refl H) (.bl _)⟩
theorem e_eqZ {k : Nat} {ma : M α} {mb : M β} (hr : Room k X.A) (ha : EJ X R Γ a ea ma) (hb : EJ X R Γ b eb mb) : EJ X R Γ (.Compare a [.Eq] [b] pos) eBool (bindM ma fun x => bindM mb fun y => optM (eqZ (ea x) (eb y))) := e_cmp (op_eqZ hr.units) v_eqZ ha hb
theorem e_neZ {k : Nat} {ma : M α} {mb : M β} (hr : Room k X.A) (ha : EJ X R Γ a ea ma) (hb : EJ X R Γ b eb mb) : EJ X R Γ (.Compare a [.NotEq] [b] pos) eBool (bindM ma fun x => bindM mb fun y => optM ((eqZ (ea x) (eb y)).map (!·))) := e_cmp (op_neZ hr.units) v_neZ ha hb
theorem t_eqZ {k : Nat} {ma : M α} {mb : M β} (hr : Room k X.A) (ha : EJ X R Γ a ea ma) (hb : EJ X R Γ b eb mb) : TJ X R Γ (.Compare a [.Eq] [b] pos) (bindM ma fun x => bindM mb fun y => optM (eqZ (ea x) (eb y))) := t_cmp (op_eqZ hr.units) v_eqZ ha hb
theorem t_neZ {k : Nat} {ma : M α} {mb : M β} (hr : Room k X.A) (ha : EJ X R Γ a ea ma) (hb : EJ X R Γ b eb mb) : TJ X R Γ (.Compare a [.NotEq] [b] pos) (bindM ma fun x => bindM mb fun y => optM ((eqZ (ea x) (eb y)).map (!·))) := t_cmp (op_neZ hr.units) v_neZ ha hb
/-! ### in, the items plain, what is asked for any -/
theorem items_z {s : Shared} {A : Around} {vs : Array Value} {xs : List PyData} {as bs : List Addr} {x : Value} {d : PyData} (rs : ReadsAll s.heap vs.toList xs as) (rx : Reads s.heap x d bs) (hxs : PyData.plainAll xs = true) (hd : pl0 d = true)
    (hu : A.units + 1 + d.depth < cLine) : ∀ y, y ∈ vs → SeqAt.EqAt A.in1 s y x (PyData.eqv (SeqAt.readOf s.heap y) d) := fun y hy => by
  obtain ⟨dy, cs, ry, hcy, _⟩ := SeqAt.readsAll_mem_plain xs _ _ hxs rs y (by simpa using hy)
  rw [SeqAt.readOf_plain hcy ry]
  refine at_d dy d A.in1 s y x _ _ ry rx (.inr ⟨hcy, hd⟩) ?_
  have : min dy.depth d.depth ≤ d.depth := Nat.min_le_right _ _
  show A.units + 1 + min dy.depth d.depth < cLine
  omega
def rInZ : R2 := fun x y H Q => ∃ A d ds, Rp A H x d ∧ (Rp A H y (.list ds) ∨ Rp A H y (.tuple ds)) ∧ PyData.plainAll ds = true ∧ pl0 d = true ∧ d.depth ≤ 60 ∧ Q (.bl (ds.any fun z => PyData.eqv z d)) H
def rNinZ : R2 := fun x y H Q => ∃ A d ds, Rp A H x d ∧ (Rp A H y (.list ds) ∨ Rp A H y (.tuple ds)) ∧ PyData.plainAll ds = true ∧ pl0 d = true ∧ d.depth ≤ 60 ∧ Q (.bl (!ds.any fun z => PyData.eqv z d)) H
theorem op_inZ (hu : X.A.units + 64 < cLine) : OpR X (compareOp .In) rInZ := fun pins s σ H x y v u Q I rx ry h => by
  obtain ⟨A, d, ds, hd, hc, p1, p2, dp, q⟩ := h
  obtain ⟨as, r1, _⟩ := Rp.reads I d x v hd rx
  rcases hc with hc | hc
  · obtain ⟨bs, r2, _⟩ := Rp.reads I _ y u hc ry
    cases r2 with
    | list h1 h2 h3 h4 => exact SeqAt.in_listAt _ ⟨_, h1, h2, _, h3⟩ (items_z h4 r1 p1 p2 (by omega)) (by rw [SeqAt.any_plain h4 p1]; exact ⟨.bl _, H, I, rfl, q⟩)
  · obtain ⟨bs, r2, _⟩ := Rp.reads I _ y u hc ry
    cases r2 with
    | tuple h1 h2 h3 h4 => exact SeqAt.in_tupleAt _ ⟨_, h1, h2, _, h3⟩ (items_z h4 r1 p1 p2 (by omega)) (by rw [SeqAt.any_plain h4 p1]; exact ⟨.bl _, H, I, rfl, q⟩)
theorem op_ninZ (hu : X.A.units + 64 < cLine) : OpR X (compareOp .NotIn) rNinZ := fun pins s σ H x y v u Q I rx ry h => by
  obtain ⟨A, d, ds, hd, hc, p1, p2, dp, q⟩ := h
  obtain ⟨as, r1, _⟩ := Rp.reads I d x v hd rx
  rcases hc with hc | hc
  · obtain ⟨bs, r2, _⟩ := Rp.reads I _ y u hc ry
    cases r2 with
    | list h1 h2 h3 h4 => exact SeqAt.notIn_listAt _ ⟨_, h1, h2, _, h3⟩ (items_z h4 r1 p1 p2 (by omega)) (by rw [SeqAt.any_plain h4 p1]; exact ⟨.bl _, H, I, rfl, q⟩)
  · obtain ⟨bs, r2, _⟩ := Rp.reads I _ y u hc ry
    cases r2 with
    | tuple h1 h2 h3 h4 => exact SeqAt.notIn_tupleAt _ ⟨_, h1, h2, _, h3⟩ (items_z h4 r1 p1 p2 (by omega)) (by rw [SeqAt.any_plain h4 p1]; exact ⟨.bl _, H, I, rfl, q⟩)
def inZ (d c : PyData) : Option Bool := match c with
  | .list ds | .tuple ds => if PyData.plainAll ds = true ∧ pl0 d = true ∧ d.depth ≤ 60 then some (ds.any fun z => PyData.eqv z d) else none
  | _ => none
theorem inZ_some {d c : PyData} {b : Bool} (h : inZ d c = some b) : ∃ ds, (c = .list ds ∨ c = .tuple ds) ∧ PyData.plainAll ds = true ∧ pl0 d = true ∧ d.depth ≤ 60 ∧ (ds.any fun z => PyData.eqv z d) = b := by
  cases c with
  | list ds => obtain ⟨⟨h1, h2, h3⟩, h4⟩ := oif (show (if PyData.plainAll ds = true ∧ pl0 d = true ∧ d.depth ≤ 60 then some (ds.any fun z => PyData.eqv z d) else none) = some b from h); exact ⟨ds, .inl rfl, h1, h2, h3, h4⟩
  | tuple ds => obtain ⟨⟨h1, h2, h3⟩, h4⟩ := oif (show (if PyData.plainAll ds = true ∧ pl0 d = true ∧ d.depth ≤ 60 then some (ds.any fun z => PyData.eqv z d) else none) = some b from h); exact ⟨ds, .inr rfl, h1, h2, h3, h4⟩
  | _ => cases h
theorem v_inZ : VOp rInZ ea eb eBool (fun x xs => inZ (ea x) (eb xs)) := fun A H x xs vx vy Q z ad r1 r2 e q => by
  obtain ⟨ds, hc, h1, h2, h3, rfl⟩ := inZ_some e
  refine ⟨A, _, ds, r1, ?_, h1, h2, h3, q _ H (Same.refl H) (.bl _)⟩
  rcases hc with hc | hc
  · rw [hc] at r2; exact .inl r2
  · rw [hc] at r2; exact .inr r2
theorem v_ninZ : VOp rNinZ ea eb eBool (fun x xs => (inZ (ea x) (eb xs)).map (!·)) := fun A H x xs vx vy Q z ad r1 r2 e q => by
  obtain ⟨b, e1, rfl⟩ := Option.map_eq_some_iff.mp e
  obtain ⟨ds, hc, h1, h2, h3, rfl⟩ := inZ_some e1
  refine ⟨A, _, ds, r1, ?_, h1, h2, h3, q _ H (Same.refl H) (.bl _)⟩
  rcases hc with hc | hc
  · rw [hc] at r2; exact .inl r2
  · rw [hc] at r2; exact .inr r2
theorem e_inZ {k : Nat} {ma : M α} {mb : M β} (hr : Room k X.A) (ha : EJ X R Γ a ea ma) (hb : EJ X R Γ b eb mb) (hmk : behindInMarks .In b = false := by rfl) : EJ X R Γ (.Compare a [.In] [b] pos) eBool (bindM ma fun x => bindM mb fun y => optM (inZ (ea x) (eb y))) := e_cmp (op_inZ hr.units) v_inZ ha hb hmk
theorem e_ninZ {k : Nat} {ma : M α} {mb : M β} (hr : Room k X.A) (ha : EJ X R Γ a ea ma) (hb : EJ X R Γ b eb mb) (hmk : behindInMarks .NotIn b = false := by rfl) : EJ X R Γ (.Compare a [.NotIn] [b] pos) eBool (bindM ma fun x => bindM mb fun y => optM ((inZ (ea x) (eb y)).map (!·))) := e_cmp (op_ninZ hr.units) v_ninZ ha hb hmk
theorem t_inZ {k : Nat} {ma : M α} {mb : M β} (hr : Room k X.A) (ha : EJ X R Γ a ea ma) (hb : EJ X R Γ b eb mb) (hmk : behindInMarks .In b = false := by rfl) : TJ X R Γ (.Compare a [.In] [b] pos) (bindM ma fun x => bindM mb fun y => optM (inZ (ea x) (eb y))) := t_cmp (op_inZ hr.units) v_inZ ha hb hmk
theorem t_ninZ {k : Nat} {ma : M α} {mb : M β} (hr : Room k X.A) (ha : EJ X R Γ a ea ma) (hb : EJ X R Γ b eb mb) (hmk : behindInMarks .NotIn b = false := by rfl) : TJ X R Γ (.Compare a [.NotIn] [b] pos) (bindM ma fun x => bindM mb fun y => optM ((inZ (ea x) (eb y)).map (!·))) := t_cmp (op_ninZ hr.units) v_ninZ ha hb hmk

/-! ### a < b < c -/
theorem chain_read {r r' : R2} {ma : M α} {mb : M β} {mc : M γ} {f : α → β → Option Bool} {g : β → γ → Option Bool} (hv : VOp r ea eb eBool f) (hv' : VOp r' eb ec eBool g) {σ : L2.St} {H : Hp} {Q : VK}
    (h : tE R Γ eBool (bindM ma fun x => bindM mb fun y => bindM (optM (f x y)) fun k => if k then bindM mc fun z => optM (g y z) else pureM false) σ H Q) : tChain r r' (tE R Γ ea ma) (tE R Γ eb mb) (tE R Γ ec mc) σ H Q := by
  obtain ⟨O, H0, ow, st, z, st', rel, ok, e, q⟩ := h
  obtain ⟨x, s1, e1, e2⟩ := bind_some e
  obtain ⟨y, s2, e3, e4⟩ := bind_some e2
  obtain ⟨k, s3, e5, e6⟩ := bind_some e4
  obtain ⟨e7, rfl⟩ := optM_inv e5
  refine ⟨O, H0, ow, st, x, s1, rel, ok, e1, fun vx H1 k1 o1 r1 => ?_⟩
  have rel1 := rel.grow k1 (okZ o1)
  refine ⟨O, H0, ow, s1, y, s2, rel1, o1, e3, fun vy H2 k2 o2 r2 => ?_⟩
  have rel2 := rel1.grow k2 (okZ o2)
  refine hv (avo O Γ ow) H2 x y vx vy _ k rel2.ad (r1.keep (rel1.keepA k2)) r2 e7 fun v H3 s3' r3 => ?_
  cases r3
  refine ⟨k, rfl, ?_⟩
  have k3 := Keep.of_same (A := Zr R) s3'
  have o3 := o2.same s3'
  have rel3 := rel2.grow k3 (okZ o3)
  cases k with
  | false =>
    obtain ⟨rfl, rfl⟩ := pure_some (show pureM false s2 = some (z, st') from e6)
    exact L2.iteF (q _ H3 ((k1.trans k2).trans k3) o3 (.bl false))
  | true =>
    obtain ⟨w, s4, e8, e9⟩ := bind_some (show bindM mc (fun z => optM (g y z)) s2 = some (z, st') from e6)
    obtain ⟨e10, rfl⟩ := optM_inv e9
    refine L2.iteT ⟨O, H0, ow, s2, w, s4, rel3, o3, e8, fun vz H4 k4 o4 r4 => ?_⟩
    have rel4 := rel3.grow k4 (okZ o4)
    exact hv' (avo O Γ ow) H4 y w vy vz Q z rel4.ad ((r2.keep (rel2.keepA k3)).keep (rel3.keepA k4)) r4 e10 fun v H5 s5 r5 => q v H5 (((k1.trans k2).trans k3).trans (k4.trans (Keep.of_same s5))) (o4.same s5) r5
theorem e_chain {op op' : CmpOp} {r r' : R2} {ma : M α} {mb : M β} {mc : M γ} {f : α → β → Option Bool} {g : β → γ → Option Bool} (ho : OpR X (compareOp op) r) (ho' : OpR X (compareOp op') r') (hv : VOp r ea eb eBool f) (hv' : VOp r' eb ec eBool g)
    (ha : EJ X R Γ a ea ma) (hb : EJ X R Γ b eb mb) (hc : EJ X R Γ c ec mc) (hm : lastMarks [op, op'] [b, c] = false := by first | rfl | with_unfolding_all rfl) :
    EJ X R Γ (.Compare a [op, op'] [b, c] pos) eBool (bindM ma fun x => bindM mb fun y => bindM (optM (f x y)) fun k => if k then bindM mc fun z => optM (g y z) else pureM false) :=
  PE.weak (pe_chain ho ho' ha hb hc hm) fun σ H Q h => chain_read hv hv' h
theorem t_chain {op op' : CmpOp} {r r' : R2} {ma : M α} {mb : M β} {mc : M γ} {f : α → β → Option Bool} {g : β → γ → Option Bool} (ho : OpR X (compareOp op) r) (ho' : OpR X (compareOp op') r') (hv : VOp r ea eb eBool f) (hv' : VOp r' eb ec eBool g)
    (ha : EJ X R Γ a ea ma) (hb : EJ X R Γ b eb mb) (hc : EJ X R Γ c ec mc) (hm : lastMarks [op, op'] [b, c] = false := by first | rfl | with_unfolding_all rfl) :
    TJ X R Γ (.Compare a [op, op'] [b, c] pos) (bindM ma fun x => bindM mb fun y => bindM (optM (f x y)) fun k => if k then bindM mc fun z => optM (g y z) else pureM false) := by
  refine PT.weak (pt_chain ho ho' ha hb hc hm) fun σ H Q h => ?_
  refine chain_read (Q := fun v H' => ∃ k, v = .bl k ∧ Q k H') hv hv' ?_
  obtain ⟨O, H0, ow, st, z, st', rel, ok, e, q⟩ := h
  exact ⟨O, H0, ow, st, z, st', rel, ok, e, fun v H' k o r => by cases r; exact ⟨_, rfl, q H' k o⟩⟩
end
end Pz

namespace Pz
open PySem PySem.Spec PyProof.Rows L2

section
variable {α β γ δ κ ρ ι : Type} {ea : α → PyData} {eb : β → PyData} {ec : γ → PyData} {er : ρ → PyData} {ei : ι → PyData} {X : Cx} {R : Res} {Γ Γ' : List Slot} {e a b c : Expr} {st : Stmt} {rest A B body : List Stmt} {pos : Pos} {out : κ → OutD}
/-! ### a tuple taken apart -/
def of2 (xs : List α) : Option (α × α × Unit) := match xs with
  | [a, b] => some (a, b, ())
  | _ => none
def of3 (xs : List α) : Option (α × α × α × Unit) := match xs with
  | [a, b, c] => some (a, b, c, ())
  | _ => none
def of4 (xs : List α) : Option (α × α × α × α × Unit) := match xs with
  | [a, b, c, d] => some (a, b, c, d, ())
  | _ => none
theorem e_of2 {m : M (List α)} (h : EJ X R Γ e (eT ea) m) : EJ X R Γ e (eP (eC ea (eC ea eU))) (bindM m fun x => optM (of2 x)) := e_narrow of2 h fun x y q => by
  unfold of2 at q
  split at q
  · cases q; rfl
  · cases q
theorem e_of3 {m : M (List α)} (h : EJ X R Γ e (eT ea) m) : EJ X R Γ e (eP (eC ea (eC ea (eC ea eU)))) (bindM m fun x => optM (of3 x)) := e_narrow of3 h fun x y q => by
  unfold of3 at q
  split at q
  · cases q; rfl
  · cases q
theorem e_of4 {m : M (List α)} (h : EJ X R Γ e (eT ea) m) : EJ X R Γ e (eP (eC ea (eC ea (eC ea (eC ea eU))))) (bindM m fun x => optM (of4 x)) := e_narrow of4 h fun x y q => by
  unfold of4 at q
  split at q
  · cases q; rfl
  · cases q
/-! ### a, b = (.., [..]): the second is an own list -/
theorem q_par2o (i j : Nat) {x y : Str} {a b : Expr} {px py pt : Pos} {kt k2 pt2} {ma : M α} {mb : M (List β)} (ha : EJ X R Γ a ea ma) (hb : EF X R Γ b eb mb) (hc : X.calm = true) (hN : X.N.Nodup) (hi : X.N[i]? = some x := by rfl) (hj : X.N[j]? = some y := by rfl) (hij : i ≠ j := by decide)
    (hx : X.env.scope.names.lookup x = some .local := by rfl) (hy : X.env.scope.names.lookup y = some .local := by rfl)
    (hw : swappedStores [.Tuple [.Name x px, .Name y py] kt pt] (.Tuple [a, b] k2 pt2) X.env = pure (some [x, y]) := by rfl)
    (hs : swapsWithSole [.Tuple [.Name x px, .Name y py] kt pt] (.Tuple [a, b] k2 pt2) pos.line X.env = pure false := by rfl)
    (hs1 : starEach [a, b] X.env = (false, eval a X.env) :: starEach [b] X.env := by rfl) (hs2 : starEach [b] X.env = (false, eval b X.env) :: starEach [] X.env := by rfl) :
    QJ X R Γ (.Assign [.Tuple [.Name x px, .Name y py] kt pt] (.Tuple [a, b] k2 pt2) pos) (fun p : α × List β => .nx ((Γ.set i (.fz (ea p.1))).set j (.ow (eL eb p.2)))) (bindM ma fun u => bindM mb fun v => pureM (u, v)) := by
  refine PS.weak (ps_par hc hN hi hj hij hx hy (pa_cons ha (pa_cons hb pa_nil hs2) hs1) hw hs) fun D σ H ⟨O, H0, ow, st, z, st', rel, ok, e, q⟩ => ?_
  obtain ⟨u, s1, e1, e2⟩ := bind_some e
  obtain ⟨v, s2, e3, e4⟩ := bind_some e2
  obtain ⟨rfl, rfl⟩ := pure_some e4
  refine ⟨O, H0, ow, st, u, s1, rel, ok, e1, fun vx H1 k1 o1 r1 => ?_⟩
  have rel1 := rel.grow k1 (okZ o1)
  refine ⟨O, H0, ow, s1, v, s2, rel1, o1, e3, fun p vs H2 n2 k2 o2 ep r2 => ?_⟩
  have relx := rel1.setFz i r1
  have less : ∀ a, avo O (Γ.set i (.fz (ea u))) ow a → avo O Γ ow a := fun a z => by
    rcases z with z | ⟨l, d, e5, e6⟩
    · exact .inl z
    · exact .inr ⟨l, d, set_noow _ _ e5, e6⟩
  obtain ⟨rel2, stp⟩ := relx.setOw j n2 k2 (okZ o2) ep (r2.less fun a z => z.elim (fun z => .inl (less a z)) .inr)
  refine ⟨vx, .ref p, rfl, q _ _ H2 rel2 o2 ⟨?_, fun l d e5 => ?_⟩⟩
  · exact rel.keepA (k1.trans k2)
  · rcases stp.sub l d e5 with z | z
    · exact .inl (less _ z)
    · by_cases na : avo O Γ ow ((fun l => if l = j then p else ow l) l)
      · exact .inl na
      · cases h : H ((fun l => if l = j then p else ow l) l) with
        | none => exact .inr rfl
        | some o =>
          have := rel.keepA k1 _ _ na h
          rw [this] at z; cases z
theorem e_some {m : M (Option α)} (h : EJ X R Γ e (eO ea) m) : EJ X R Γ e ea (bindM m fun x => optM x) := e_narrow (fun x => x) h fun x y q => by rw [q]; rfl
/-! ### {} as data -/
theorem e_dict0 : EJ X R Γ (.Dict [] [] pos) eD (pureM (.dict [])) := by
  refine PE.weak pe_dnewK fun σ H Q ⟨O, H0, ow, st, z, st', rel, ok, e, q⟩ => ?_
  obtain ⟨rfl, rfl⟩ := pure_some e
  intro p n
  exact q _ _ (Keep.of_same (same_new n)) (ok.same (same_new n)) (.dic (rel.ad.fresh n) upd_same)
/-! ### more stars -/
theorem l_starL {es : List Expr} {p : Pos} {ma mb : M (List α)} (ha : EJ X R Γ a (eL ea) ma) (hb : LJ X R Γ es ea mb) (hs : starEach (.Starred a p :: es) X.env = (true, eval a X.env) :: starEach es X.env := by rfl) :
    LJ X R Γ (.Starred a p :: es) ea (bindM ma fun x => bindM mb fun y => pureM (x ++ y)) := by
  refine PA.weak (StX.pa_star ha hb hs) fun σ H Q ⟨O, H0, ow, st, z, st', rel, ok, e, q⟩ => ?_
  obtain ⟨x, s1, e1, e'⟩ := bind_some e
  obtain ⟨y, s2, e2, e3⟩ := bind_some e'
  obtain ⟨rfl, rfl⟩ := pure_some e3
  refine ⟨O, H0, ow, st, x, s1, rel, ok, e1, fun vx H1 k1 o1 r1 => ?_⟩
  cases r1 with
  | lst na ha hr =>
    refine ⟨_, _, rfl, .inr (SqL.of ha), O, H0, ow, s1, y, s2, rel.grow k1 (okZ o1), o1, e2, fun vs H2 k2 o2 r2 => q _ H2 (k1.trans k2) o2 ?_⟩
    have hr2 := hr.keep ((rel.grow k1 (okZ o1)).keepA k2)
    have all := hr2.append (RpSs.dat (R := R) r2)
    rw [← List.map_append] at all
    have back : ∀ {vs : List V} {ds : List PyData}, RpAll (avo O Γ ow) H2 vs ds → RpSs R (avo O Γ ow) H2 vs (ds.map .fz) := by
      intro vs ds
      induction ds generalizing vs with
      | nil => intro h; cases h; exact .nil
      | cons d ds ih => intro h; cases h with | cons h1 h2 => exact .cons h1 (ih h2)
    exact back all
end
end Pz

namespace Pz
open PySem PySem.Spec PyProof.Rows L2
/-! ### sorted rows of ints: the order of lists -/
theorem rowsLe : PySem.W.dataLe false (eT eInt) = fun (p q : List Int) => decide (p ≤ q) := PySem.W.dataLe_rows (β := List Int) (fun x => x)
theorem srt_rows (xs : List (List Int)) : srt (eT eInt) xs = xs.mergeSort fun p q => decide (p ≤ q) := by unfold srt; rw [rowsLe]
theorem intsLe : PySem.W.dataLe false eInt = fun (p q : Int) => decide (p ≤ q) := PySem.W.dataLe_int (β := Int) (fun x => x)
theorem srt_ints (xs : List Int) : srt eInt xs = xs.mergeSort fun p q => decide (p ≤ q) := by unfold srt; rw [intsLe]
theorem rows_anti (a b : List Int) (h1 : a ≤ b) (h2 : b ≤ a) : a = b := Std.le_antisymm h1 h2
theorem srt_sorted (xs : List (List Int)) : (srt (eT eInt) xs).Pairwise (· ≤ ·) := by
  rw [srt_rows]
  have := List.pairwise_mergeSort (le := fun p q : List Int => decide (p ≤ q)) (fun a b c h1 h2 => by simp only [decide_eq_true_eq] at h1 h2 ⊢; exact Std.le_trans h1 h2) (fun a b => by simp only [Bool.or_eq_true, decide_eq_true_eq]; exact Std.le_total) xs
  exact this.imp fun h => by simpa using h
/-- sorted, and the same items: the same list -/
theorem srt_eq {xs ys : List (List Int)} (hp : xs.Perm ys) (hs : ys.Pairwise (· ≤ ·)) : srt (eT eInt) xs = ys := by
  have h1 : (srt (eT eInt) xs).Perm ys := (List.mergeSort_perm _ _).trans hp
  exact h1.eq_of_pairwise (fun a b _ _ => rows_anti a b) (srt_sorted xs) hs
end Pz

namespace Pz
open PySem PySem.Spec PyProof.Rows L2
/-! ### the lots of k of n points, the first first -/
def nextL (lot : List Int) : Int := match lot.getLast? with
  | some x => x + 1
  | none => 0
def lotsL (n : Int) : Nat → List (List Int)
  | 0 => [[]]
  | k + 1 => (lotsL n k).flatMap fun lot => (irange (nextL lot) n).map fun b => lot ++ [b]
/-- rising, from lo on, below n -/
def Lot (n : Int) (lot : List Int) : Prop := lot.Pairwise (· < ·) ∧ ∀ x ∈ lot, 0 ≤ x ∧ x < n
theorem nextL_snoc (l : List Int) (b : Int) : nextL (l ++ [b]) = b + 1 := by unfold nextL; rw [List.getLast?_concat]
theorem lot_next {n : Int} {lot : List Int} (h : Lot n lot) : 0 ≤ nextL lot ∧ ∀ x ∈ lot, x < nextL lot := by
  rcases List.eq_nil_or_concat lot with rfl | ⟨l, b, rfl⟩
  · exact ⟨by decide, by simp⟩
  · rw [List.concat_eq_append] at h ⊢
    rw [nextL_snoc]
    have hb := h.2 b (by simp)
    refine ⟨by omega, fun x hx => ?_⟩
    rcases List.mem_append.mp hx with hx | hx
    · have := (List.pairwise_append.mp h.1).2.2 x hx b (by simp)
      omega
    · rw [List.mem_singleton] at hx; omega
theorem lot_snoc {n : Int} {l : List Int} {b : Int} : Lot n (l ++ [b]) ↔ Lot n l ∧ nextL l ≤ b ∧ b < n := by
  constructor
  · intro h
    have hl : Lot n l := ⟨(List.pairwise_append.mp h.1).1, fun x hx => h.2 x (List.mem_append_left _ hx)⟩
    have hb := h.2 b (by simp)
    refine ⟨hl, ?_, hb.2⟩
    rcases List.eq_nil_or_concat l with rfl | ⟨m, c, rfl⟩
    · exact hb.1
    · rw [List.concat_eq_append] at h ⊢
      rw [nextL_snoc]
      have := (List.pairwise_append.mp h.1).2.2 c (by simp) b (by simp)
      omega
  · rintro ⟨hl, h1, h2⟩
    have nx := lot_next hl
    refine ⟨List.pairwise_append.mpr ⟨hl.1, by simp, fun x hx y hy => ?_⟩, fun x hx => ?_⟩
    · rw [List.mem_singleton] at hy
      have := nx.2 x hx
      omega
    · rcases List.mem_append.mp hx with hx | hx
      · exact hl.2 x hx
      · rw [List.mem_singleton] at hx; omega
theorem mem_lotsL {n : Int} : ∀ {k : Nat} {lot : List Int}, lot ∈ lotsL n k ↔ Lot n lot ∧ lot.length = k
  | 0, lot => by
    simp only [lotsL, List.mem_singleton]
    constructor
    · rintro rfl; exact ⟨⟨.nil, by simp⟩, rfl⟩
    · rintro ⟨_, h⟩; exact List.eq_nil_of_length_eq_zero h
  | k + 1, lot => by
    simp only [lotsL, List.mem_flatMap, List.mem_map, mem_irange]
    constructor
    · rintro ⟨l, hl, b, ⟨h1, h2⟩, rfl⟩
      have := mem_lotsL.mp hl
      exact ⟨lot_snoc.mpr ⟨this.1, h1, h2⟩, by simp [this.2]⟩
    · rintro ⟨h, hk⟩
      rcases List.eq_nil_or_concat lot with rfl | ⟨l, b, rfl⟩
      · simp at hk
      · rw [List.concat_eq_append] at *
        obtain ⟨hl, h1, h2⟩ := lot_snoc.mp h
        exact ⟨l, mem_lotsL.mpr ⟨hl, by simpa using hk⟩, b, ⟨h1, h2⟩, rfl⟩
theorem lt_app : ∀ {a b : List Int} (x y : List Int), a.length = b.length → a < b → a ++ x < b ++ y
  | [], [], _, _, _, h => absurd h (by simp)
  | a :: as, b :: bs, x, y, hl, h => by
    rw [List.cons_append, List.cons_append, List.cons_lt_cons_iff]
    rcases List.cons_lt_cons_iff.mp h with h | ⟨e, h2⟩
    · exact .inl h
    · exact .inr ⟨e, lt_app x y (by simpa using hl) h2⟩
theorem app_lt : ∀ (a : List Int) {x y : List Int}, x < y → a ++ x < a ++ y
  | [], _, _, h => h
  | a :: as, _, _, h => by
    rw [List.cons_append, List.cons_append, List.cons_lt_cons_iff]
    exact .inr ⟨rfl, app_lt as h⟩
theorem irange_sorted (lo hi : Int) : (irange lo hi).Pairwise (· < ·) := by
  unfold irange
  rw [List.pairwise_map]
  exact List.pairwise_lt_range.imp fun h => by omega
theorem lotsL_sorted {n : Int} : ∀ k : Nat, (lotsL n k).Pairwise (· < ·)
  | 0 => by simp [lotsL]
  | k + 1 => by
    unfold lotsL
    rw [List.pairwise_flatMap]
    refine ⟨fun l _ => ?_, ?_⟩
    · rw [List.pairwise_map]
      exact (irange_sorted _ _).imp fun {a b} h => app_lt l (List.cons_lt_cons_iff.mpr (.inl h))
    · refine (lotsL_sorted k).imp_of_mem fun {a b} ha hb h x hx y hy => ?_
      obtain ⟨c, _, rfl⟩ := List.mem_map.mp hx
      obtain ⟨d, _, rfl⟩ := List.mem_map.mp hy
      exact lt_app _ _ (by rw [(mem_lotsL.mp ha).2, (mem_lotsL.mp hb).2]) h
theorem lotsL_nodup {n : Int} (k : Nat) : (lotsL n k).Nodup := (lotsL_sorted k).imp fun h e => by rw [e] at h; exact absurd h (Std.lt_irrefl)
/-- a list of the same lots, none twice: sorted, it is lotsL -/
theorem srt_lots {n : Int} {k : Nat} {xs : List (List Int)} (hn : xs.Nodup) (hm : ∀ l, l ∈ xs ↔ Lot n l ∧ l.length = k) : srt (eT eInt) xs = lotsL n k := by
  refine srt_eq ((List.perm_ext_iff_of_nodup hn (lotsL_nodup k)).mpr fun a => by rw [hm, mem_lotsL]) ?_
  exact (lotsL_sorted k).imp fun h => Std.le_of_lt h
end Pz

/-! the plain side, part two: lists, shown data, heads -/
namespace Pz
open PySem PySem.Spec PyProof.Rows L2
section
variable {α β γ κ ρ ι : Type}
theorem sm100 {xs : List α} (h : xs.length ≤ 100) : smallM (pureM xs) = pureM xs := smallM_pure (by unfold sizeLine; omega)
theorem forM_append {β ι : Type} (f : β → ι → M β) : ∀ (xs ys : List ι) (b : β), forM' f (xs ++ ys) b = Pz.bindM (forM' f xs b) fun c => forM' f ys c
  | [], ys, b => rfl
  | x :: xs, ys, b => by
    rw [List.cons_append, forM', forM', Pz.bind_assoc]
    congr 1
    funext c
    exact forM_append f xs ys c
theorem irange_succ (m : Nat) : irange 0 ((m : Int) + 1) = irange 0 m ++ [(m : Int)] := by
  unfold irange
  rw [show ((m : Int) + 1 - 0).toNat = m + 1 by omega, show ((m : Int) - 0).toNat = m by omega, List.range_succ, List.map_append]
  simp
theorem irange_snoc {lo hi : Int} (h : lo ≤ hi) : irange lo (hi + 1) = irange lo hi ++ [hi] := by
  unfold irange
  rw [show (hi + 1 - lo).toNat = (hi - lo).toNat + 1 by omega, List.range_succ, List.map_append]
  simp
  omega
theorem irange_cons {lo hi : Int} (h : lo < hi) : irange lo hi = lo :: irange (lo + 1) hi := by
  unfold irange
  rw [show (hi - lo).toNat = (hi - (lo + 1)).toNat + 1 by omega, List.range_succ_eq_map, List.map_cons, List.map_map]
  simp
  intro a _
  omega
theorem irange_nil {lo hi : Int} (h : hi ≤ lo) : irange lo hi = [] := by
  unfold irange
  rw [show (hi - lo).toNat = 0 by omega]; rfl
theorem irange_nodup (lo hi : Int) : (irange lo hi).Nodup := (irange_sorted lo hi).imp fun h => by omega
theorem filt_map (q : α → Bool) (f : α → β) : ∀ xs : List α, (xs.flatMap fun x => if q x then [f x] else []) = (xs.filter q).map f
  | [] => rfl
  | x :: xs => by
    rw [List.flatMap_cons, filt_map q f xs]
    cases h : q x <;> simp [h]
theorem filter_flatMap' (q : β → Bool) (f : α → List β) : ∀ xs : List α, (xs.flatMap f).filter q = xs.flatMap fun x => (f x).filter q
  | [] => rfl
  | x :: xs => by rw [List.flatMap_cons, List.filter_append, filter_flatMap' q f xs, List.flatMap_cons]
theorem flatMap_filter' (q : α → Bool) (f : α → List β) : ∀ xs : List α, (xs.filter q).flatMap f = xs.flatMap fun x => if q x then f x else []
  | [] => rfl
  | x :: xs => by
    cases h : q x with
    | true => rw [List.filter_cons_of_pos h, List.flatMap_cons, List.flatMap_cons, h, flatMap_filter' q f xs]; rfl
    | false => rw [List.filter_cons_of_neg (by rw [h]; simp), List.flatMap_cons, h, flatMap_filter' q f xs]; rfl
theorem atI_lastq (xs : List α) (x : α) : atI (xs ++ [x]) (-1) = some x := by
  unfold atI L2.ixN
  rw [if_neg (by omega), List.length_append, List.length_singleton, if_pos (by omega), show (-1 + ((xs.length + 1 : Nat) : Int)).toNat = xs.length by omega]
  simp
theorem cut_to (xs : List α) {n : Int} (h : 0 ≤ n) : cutL xs none (some n) = xs.take n.toNat := by
  unfold cutL HT.sIx
  dsimp only
  rw [if_neg (by omega), List.drop_zero, Nat.sub_zero, ← List.take_take, List.take_length]
theorem cut_from (xs : List α) {n : Int} (h : 0 ≤ n) : cutL xs (some n) none = xs.drop n.toNat := by
  unfold cutL HT.sIx
  dsimp only
  rw [if_neg (by omega)]
  by_cases hl : n.toNat ≤ xs.length
  · rw [Nat.min_eq_left hl, List.take_of_length_le (by rw [List.length_drop]; omega)]
  · rw [Nat.min_eq_right (by omega), List.drop_eq_nil_of_le (Nat.le_refl _), List.drop_eq_nil_of_le (by omega)]; simp
theorem enumF_snoc (b : α) : ∀ (k : Nat) (xs : List α), enumF k (xs ++ [b]) = enumF k xs ++ [(((k + xs.length : Nat) : Int), b, ())]
  | k, [] => by simp [enumF]
  | k, x :: xs => by
    rw [List.cons_append, enumF, enumF_snoc b (k + 1) xs, enumF, List.cons_append]
    simp only [List.length_cons]
    rw [show k + 1 + xs.length = k + (xs.length + 1) by omega]
theorem enum_lt {xs : List α} {q : Int × α × Unit} (h : q ∈ enumL xs) : 0 ≤ q.1 ∧ q.1 < xs.length ∧ xs[q.1.toNat]? = some q.2.1 := by
  obtain ⟨i, hi⟩ := List.mem_iff_getElem?.mp h
  rw [enumL_get] at hi
  obtain ⟨x, hx, e⟩ := Option.map_eq_some_iff.mp hi
  have h1 := (List.getElem?_eq_some_iff.mp hx).1
  subst e
  exact ⟨Int.natCast_nonneg i, by show (i : Int) < _; omega, by simpa using hx⟩
theorem enum_mem {xs : List α} {q : Int × α × Unit} (h : q ∈ enumL xs) : q.2.1 ∈ xs := List.mem_of_getElem? (enum_lt h).2.2
theorem enumF_map (f : α → β) : ∀ (k : Nat) (xs : List α), enumF k (xs.map f) = (enumF k xs).map fun p => (p.1, f p.2.1, ())
  | _, [] => rfl
  | k, x :: xs => by rw [List.map_cons, enumF, enumF, List.map_cons, enumF_map f (k + 1) xs]
theorem enum_map (f : α → β) (xs : List α) : enumL (xs.map f) = (enumL xs).map fun p => (p.1, f p.2.1, ()) := enumF_map f 0 xs
theorem comp_map (c : β → M Bool) (f : β → M γ) (g : α → β) : ∀ xs : List α, compM c f (xs.map g) = compM (fun x => c (g x)) (fun x => f (g x)) xs
  | [] => rfl
  | x :: xs => by rw [List.map_cons, compM, compM, comp_map c f g xs]
theorem forO_map {f : β → γ → M (Out ρ β)} (g : α → γ) : ∀ (xs : List α) (b : β), forO f (xs.map g) b = forO (fun b x => f b (g x)) xs b
  | [], b => rfl
  | x :: xs, b => by
    rw [List.map_cons, forO, forO]
    congr 1
    funext o
    cases o with
    | nx b => exact forO_map g xs b
    | rt r => rfl
theorem forO_some {f : β → ι → M (Out ρ β)} (g : ι → Option ρ) (b : β) : ∀ {xs : List ι}, (∀ x ∈ xs, f b x = pureM (match g x with | some r => .rt r | none => .nx b)) → forO f xs b = pureM (match xs.findSome? g with | some r => .rt r | none => .nx b)
  | [], _ => rfl
  | x :: xs, hf => by
    unfold forO
    rw [hf x List.mem_cons_self, bp]
    cases h : g x with
    | some r => simp [List.findSome?, h]
    | none =>
      dsimp only
      rw [forO_some g b fun y hy => hf y (List.mem_cons_of_mem _ hy)]
      simp [List.findSome?, h]
theorem compM_pureF {c : ι → M Bool} (cc : ι → Bool) {xs : List ι} (h : ∀ x ∈ xs, c x = pureM (cc x)) : compM c (fun x => pureM x) xs = pureM (xs.filter cc) := by
  rw [compM_pure cc (fun x => x) h fun _ _ _ => rfl, List.map_id']
theorem at0 (x : α) (r : List α) : atI (x :: r) 0 = some x := Pz.atI_nat (xs := x :: r) (i := 0) (Nat.succ_pos _)
theorem at1 (x y : α) (r : List α) : atI (x :: y :: r) 1 = some y := Pz.atI_nat (xs := x :: y :: r) (i := 1) (by simp)
theorem at2 (x y z : α) (r : List α) : atI (x :: y :: z :: r) 2 = some z := Pz.atI_nat (xs := x :: y :: z :: r) (i := 2) (by simp)
theorem asTup_t (ds : List PyData) : asTup (.tuple ds) = some ds := rfl
theorem find_head (q : α → Bool) (xs : List α) : (xs.filter q).head? = xs.find? q := List.head?_filter ..

/-! ### whole numbers among data -/
def isWN : PyData → Bool
  | .int _ => true
  | _ => false
theorem wn_ints : ∀ {ys : List PyData}, ys.all isWN = true → ∃ xs : List Int, ys.mapM asInt = some xs ∧ ys = xs.map eInt
  | [], _ => ⟨[], rfl, rfl⟩
  | y :: ys, h => by
    rw [List.all_cons, Bool.and_eq_true] at h
    obtain ⟨xs, e1, e2⟩ := wn_ints h.2
    cases y with
    | int i =>
      refine ⟨i :: xs, ?_, by rw [e2]; rfl⟩
      rw [List.mapM_cons]
      show (some i).bind _ = _
      rw [Option.bind_some, e1]
      rfl
    | _ => simp [isWN] at h
theorem mapM_ints : ∀ xs : List Int, (xs.map eInt).mapM asInt = some xs
  | [] => rfl
  | x :: xs => by
    rw [List.map_cons, List.mapM_cons, mapM_ints xs]; rfl
theorem all_ints (xs : List Int) : (xs.map eInt).all isWN = true := by
  rw [List.all_eq_true]
  intro d hd
  obtain ⟨i, _, rfl⟩ := List.mem_map.mp hd
  rfl

/-! ### comparing -/
theorem eqZ_str (s t : Str) : eqZ (.str s) (eStr t) = some (decide (s = t)) := by
  unfold eqZ
  rw [if_pos ⟨rfl, by simp [PyData.depth]⟩]
  simp [eStr, PyData.eqv]
  exact Bool.beq_eq_decide_eq s t
theorem pl0s_filter {p : PyData → Bool} : ∀ {ys : List PyData}, pl0s ys = true → pl0s (ys.filter p) = true
  | [], _ => rfl
  | y :: ys, h => by
    simp only [pl0s, Bool.and_eq_true] at h
    cases hy : p y with
    | true => rw [List.filter_cons_of_pos hy]; simp only [pl0s, Bool.and_eq_true]; exact ⟨h.1, pl0s_filter h.2⟩
    | false => rw [List.filter_cons_of_neg (by rw [hy]; simp)]; exact pl0s_filter h.2
theorem depth_filter {p : PyData → Bool} : ∀ {ys : List PyData}, PyData.depthAll (ys.filter p) ≤ PyData.depthAll ys
  | [] => Nat.le_refl _
  | y :: ys => by
    have ih := depth_filter (p := p) (ys := ys)
    cases hy : p y with
    | true => rw [List.filter_cons_of_pos hy]; simp only [PyData.depthAll]; omega
    | false => rw [List.filter_cons_of_neg (by rw [hy]; simp)]; simp only [PyData.depthAll]; omega
/-- a list of data compared with [] -/
theorem eqZ_nil {ys : List PyData} (hp : pl0s ys = true) (hd : PyData.depthAll ys ≤ 58) : eqZ (eL eD ys) (eL eD []) = some ys.isEmpty := by
  have e : eqZ (eL eD ys) (eL eD []) = some (PyData.eqv (eL eD ys) (eL eD [])) := by
    unfold eqZ
    refine if_pos ⟨?_, by simp only [eL, PyData.depth, map_eD]; omega⟩
    unfold cmB
    rw [Bool.or_eq_true]
    left
    rw [Bool.and_eq_true]
    exact ⟨by simpa [eL, pl0, map_eD] using hp, rfl⟩
  rw [e]
  cases ys with
  | nil => rfl
  | cons a l => simp [eL, PyData.eqv, PyData.eqvAll]

/-! ### shown data: f: no list in it (then empty dicts may be), else no dict -/
structure Sg (f : Bool) (dp wt : Nat) (d : PyData) : Prop where
  show_ : d.showable = true
  dic : if f then noLst d = true else d.hasDict = false
  dep : d.depth ≤ dp
  leaf : d.leavesShort 40 = true
  wgt : d.weight ≤ wt
structure Sgs (f : Bool) (dp wt : Nat) (ds : List PyData) : Prop where
  show_ : PyData.showableAll ds = true
  dic : if f then noLsts ds = true else PyData.hasDictAll ds = false
  dep : PyData.depthAll ds ≤ dp
  leaf : PyData.leavesShortAll 40 ds = true
  wgt : PyData.weightAll ds ≤ wt
theorem Sg.mono {f : Bool} {dp wt dp' wt' : Nat} {d : PyData} (h : Sg f dp wt d) (h1 : dp ≤ dp') (h2 : wt ≤ wt') : Sg f dp' wt' d := ⟨h.show_, h.dic, Nat.le_trans h.dep h1, h.leaf, Nat.le_trans h.wgt h2⟩
theorem Sgs.mono {f : Bool} {dp wt dp' wt' : Nat} {d : List PyData} (h : Sgs f dp wt d) (h1 : dp ≤ dp') (h2 : wt ≤ wt') : Sgs f dp' wt' d := ⟨h.show_, h.dic, Nat.le_trans h.dep h1, h.leaf, Nat.le_trans h.wgt h2⟩
theorem Sg.rep {f : Bool} {wt : Nat} {d : PyData} (h : Sg f 60 wt d) (hw : 42 * wt + 40 ≤ 16777216 := by decide) : reprO d = some d.shown := by
  unfold reprO
  exact if_pos ⟨h.show_, (by
    have h2 := h.dic
    cases f with
    | true => exact fun _ => by simpa using h2
    | false => exact fun z => by simp only [Bool.false_eq_true, if_false] at h2; rw [h2] at z; cases z), h.dep, (by
    have h1 := PyData.shown_le 40 (by decide) d h.leaf
    have h2 : (40 + 2) * d.weight ≤ (40 + 2) * wt := Nat.mul_le_mul_left _ h.wgt
    rw [sizeLine_eq]
    omega)⟩
theorem Sg.of {dp wt : Nat} {d : PyData} (h : Sh dp wt d) : Sg false dp wt d := ⟨h.show_, by simpa using h.dic, h.dep, h.leaf, h.wgt⟩
theorem Sgs.nil {f : Bool} : Sgs f 0 0 [] := ⟨rfl, by cases f <;> rfl, by simp [PyData.depthAll], rfl, by simp [PyData.weightAll]⟩
theorem Sgs.cons {f : Bool} {dp w1 w2 : Nat} {d : PyData} {r : List PyData} (h : Sg f dp w1 d) (k : Sgs f dp w2 r) : Sgs f dp (w1 + 1 + w2) (d :: r) := by
  obtain ⟨a1, a2, a3, a4, a5⟩ := h
  obtain ⟨b1, b2, b3, b4, b5⟩ := k
  refine ⟨by simp [PyData.showableAll, a1, b1], ?_, by simp only [PyData.depthAll]; omega, by simp [PyData.leavesShortAll, a4, b4], by simp only [PyData.weightAll]; omega⟩
  cases f with
  | true => simp only [if_true] at a2 b2 ⊢; simp [noLsts, a2, b2]
  | false => simp only [Bool.false_eq_true, if_false] at a2 b2 ⊢; simp [PyData.hasDictAll, a2, b2]
theorem Sgs.all {f : Bool} {dp w : Nat} : ∀ {ds : List PyData}, (∀ d ∈ ds, Sg f dp w d) → Sgs f dp (ds.length * (w + 1)) ds
  | [], _ => Sgs.nil.mono (Nat.zero_le _) (Nat.zero_le _)
  | d :: ds, h => (Sgs.cons (h d List.mem_cons_self) (Sgs.all fun x hx => h x (List.mem_cons_of_mem _ hx))).mono (Nat.le_refl _) (by
      rw [List.length_cons, Nat.succ_mul]; omega)
theorem Sgs.mem {f : Bool} {dp wt : Nat} : ∀ {ds : List PyData}, Sgs f dp wt ds → ∀ d ∈ ds, Sg f dp wt d
  | [], _, _, h => nomatch h
  | x :: xs, k, d, h => by
    obtain ⟨b1, b2, b3, b4, b5⟩ := k
    simp only [PyData.showableAll, PyData.depthAll, PyData.leavesShortAll, PyData.weightAll, Bool.and_eq_true] at b1 b3 b4 b5
    have b2' : (if f then noLst x = true else x.hasDict = false) ∧ (if f then noLsts xs = true else PyData.hasDictAll xs = false) := by
      cases f with
      | true => simpa [noLsts] using b2
      | false => simpa [PyData.hasDictAll] using b2
    rcases List.mem_cons.mp h with rfl | h
    · exact ⟨b1.1, b2'.1, by omega, b4.1, by omega⟩
    · exact Sgs.mem ⟨b1.2, b2'.2, by omega, b4.2, by omega⟩ d h
theorem Sg.tup {f : Bool} {dp wt : Nat} {ds : List PyData} (h : Sgs f dp wt ds) : Sg f (dp + 1) wt (.tuple ds) := by
  obtain ⟨b1, b2, b3, b4, b5⟩ := h
  refine ⟨by simpa [PyData.showable] using b1, ?_, by simp only [PyData.depth]; omega, by simpa [PyData.leavesShort] using b4, by simpa [PyData.weight] using b5⟩
  cases f with
  | true => simpa [noLst] using b2
  | false => simpa [PyData.hasDict] using b2
theorem Sg.parts {f : Bool} {dp wt : Nat} {ds : List PyData} (h : Sg f (dp + 1) wt (.tuple ds)) : Sgs f dp wt ds := by
  obtain ⟨b1, b2, b3, b4, b5⟩ := h
  refine ⟨by simpa [PyData.showable] using b1, ?_, by simp only [PyData.depth] at b3; omega, by simpa [PyData.leavesShort] using b4, by simpa [PyData.weight] using b5⟩
  cases f with
  | true => simpa [noLst] using b2
  | false => simpa [PyData.hasDict] using b2
theorem Sg.lst {dp wt : Nat} {ds : List PyData} (h : Sgs false dp wt ds) : Sg false (dp + 1) wt (.list ds) := by
  obtain ⟨b1, b2, b3, b4, b5⟩ := h
  exact ⟨by simpa [PyData.showable] using b1, by simpa [PyData.hasDict] using b2, by simp only [PyData.depth]; omega, by simpa [PyData.leavesShort] using b4, by simpa [PyData.weight] using b5⟩
theorem Sg.int {f : Bool} {i : Int} (h : i.natAbs < 10 ^ 30) : Sg f 0 100 (.int i) := by
  have k := Sh.big h
  exact ⟨k.show_, by cases f <;> rfl, k.dep, k.leaf, k.wgt⟩
theorem Sg.bool {f : Bool} {b : Bool} : Sg f 0 0 (.bool b) := ⟨rfl, by cases f <;> rfl, by simp [PyData.depth], rfl, by simp [PyData.weight]⟩
theorem Sg.non {f : Bool} : Sg f 0 0 .none := ⟨rfl, by cases f <;> rfl, by simp [PyData.depth], rfl, by simp [PyData.weight]⟩
theorem Sg.str {f : Bool} {s : Str} (h : s.cps.size ≤ 50) (h2 : (s.cps.toList.all fun c => decide (c < 16 ^ 8)) = true) : Sg f 0 50 (.str s) := ⟨rfl, by cases f <;> rfl, by simp [PyData.depth], by simpa [PyData.leavesShort] using h2, by simpa [PyData.weight] using h⟩
theorem Sg.dict : Sg true 1 0 (.dict []) := ⟨rfl, rfl, by simp [PyData.depth, PyData.depthKv], rfl, by simp [PyData.weight, PyData.weightKv]⟩
theorem Sg.ints {f : Bool} {xs : List Int} (n : Nat) (hn : xs.length ≤ n) (h : ∀ x ∈ xs, x.natAbs < 10 ^ 30) : Sg f 1 (n * 101) (eT eInt xs) := by
  have k := Sgs.all (f := f) (dp := 0) (w := 100) (ds := xs.map eInt) fun d hd => by
    obtain ⟨i, hi, rfl⟩ := List.mem_map.mp hd
    exact Sg.int (h i hi)
  rw [List.length_map] at k
  exact (Sg.tup k).mono (Nat.le_refl _) (Nat.mul_le_mul_right _ hn)
mutual
theorem noLst_pl0 : ∀ d : PyData, noLst d = true → pl0 d = true
  | .none, _ | .bool _, _ | .int _, _ | .str _, _ => rfl
  | .list ds, h => nomatch h
  | .tuple ds, h => noLsts_pl0 ds h
  | .dict _, h => h
theorem noLsts_pl0 : ∀ ds : List PyData, noLsts ds = true → pl0s ds = true
  | [], _ => rfl
  | d :: ds, h => by
    simp only [noLsts, Bool.and_eq_true] at h
    simp only [pl0s, noLst_pl0 d h.1, noLsts_pl0 ds h.2, Bool.and_self]
end
mutual
theorem noDict_plain : ∀ d : PyData, d.hasDict = false → d.plain = true
  | .none, _ | .bool _, _ | .int _, _ | .str _, _ => rfl
  | .list ds, h => noDicts_plain ds (by simpa [PyData.hasDict] using h)
  | .tuple ds, h => noDicts_plain ds (by simpa [PyData.hasDict] using h)
  | .dict _, h => by simp [PyData.hasDict] at h
theorem noDicts_plain : ∀ ds : List PyData, PyData.hasDictAll ds = false → PyData.plainAll ds = true
  | [], _ => rfl
  | d :: ds, h => by
    simp only [PyData.hasDictAll, Bool.or_eq_false_iff] at h
    simp only [PyData.plainAll, noDict_plain d h.1, noDicts_plain ds h.2, Bool.and_self]
end
theorem Sg.pl0 {f : Bool} {dp wt : Nat} {d : PyData} (h : Sg f dp wt d) : pl0 d = true := by
  have h2 := h.dic
  cases f with
  | true => exact noLst_pl0 d (by simpa using h2)
  | false => exact pl0_plain d (noDict_plain d (by simpa using h2))

/-! ### what a one-tuple shows -/
theorem cps_append (a b : Str) : (a ++ b).cps.toList = a.cps.toList ++ b.cps.toList := by
  show (Str.append a b).cps.toList = _
  unfold Str.append
  simp
theorem str_ext {a b : Str} (h : a.cps.toList = b.cps.toList) : a = b := by
  cases a; cases b; simp only [Str.mk.injEq]; exact Array.toList_inj.mp h
theorem repr_last (t : Str) : (reprText t).cps.toList.getLast? = some (reprQuote t) := by
  unfold reprText
  rw [Array.toList_push, List.getLast?_concat]
theorem quote_or (t : Str) : reprQuote t = 39 ∨ reprQuote t = 34 := by
  unfold reprQuote
  split
  · exact .inr rfl
  · exact .inl rfl
theorem shown_not_str {x : PyData} {t : Str} (h : ∀ s, x ≠ .str s) : x.shown ≠ PyData.shown (.str t) := by
  intro e
  have hl : x.shown.cps.toList.getLast? = some (reprQuote t) := by rw [e]; exact repr_last t
  have hq := quote_or t
  have last : ∀ (a b : Str) (c : Nat), b.cps.toList.getLast? = some c → (a ++ b).cps.toList.getLast? = some c := fun a b c hb => by
    rw [cps_append, List.getLast?_append, hb]; rfl
  cases x with
  | none =>
    rw [show (PyData.shown .none).cps.toList.getLast? = some 101 by decide +kernel, Option.some.injEq] at hl
    omega
  | bool b =>
    rw [show (PyData.shown (.bool b)).cps.toList.getLast? = some 101 by cases b <;> decide +kernel, Option.some.injEq] at hl
    omega
  | int i =>
    have hm := List.mem_of_getLast? hl
    rcases hq with q | q
    · rw [q] at hm; exact (shown_int_free_39 i).mp hm
    · rw [q] at hm; exact (shown_int_free_34 i).mp hm
  | str s => exact h s rfl
  | list ds =>
    have : (PyData.shown (.list ds)).cps.toList.getLast? = some 93 := by
      simp only [PyData.shown, listText]
      exact last _ _ _ (by decide +kernel)
    rw [this, Option.some.injEq] at hl
    omega
  | tuple ds =>
    have : (PyData.shown (.tuple ds)).cps.toList.getLast? = some 41 := by
      simp only [PyData.shown, tupleText]
      refine last _ _ _ ?_
      split <;> decide +kernel
    rw [this, Option.some.injEq] at hl
    omega
  | dict kvs =>
    have : (PyData.shown (.dict kvs)).cps.toList.getLast? = some 125 := by
      simp only [PyData.shown, dictText]
      exact last _ _ _ (by decide +kernel)
    rw [this, Option.some.injEq] at hl
    omega
theorem shown_one {x : PyData} {t : Str} (hs : ∀ s, x = .str s → PyData.shown (.str s) = PyData.shown (.str t) → s = t) : (PyData.tuple [x]).shown = (PyData.tuple [.str t]).shown ↔ x = .str t := by
  constructor
  · intro e
    have e2 : x.shown = PyData.shown (.str t) := by
      have : ∀ y : PyData, (PyData.tuple [y]).shown.cps.toList = ("(" : Str).cps.toList ++ y.shown.cps.toList ++ (",)" : Str).cps.toList := fun y => by
        simp only [PyData.shown, PyData.shownAll, tupleText, List.length_singleton, beq_self_eq_true, if_true]
        rw [cps_append, cps_append]; rfl
      have e3 := congrArg (fun z : Str => z.cps.toList) e
      simp only [this] at e3
      exact str_ext (List.append_cancel_left (List.append_cancel_right e3))
    by_cases h : ∃ s, x = .str s
    · obtain ⟨s, rfl⟩ := h
      rw [hs s rfl e2]
    · exact absurd e2 (shown_not_str fun s z => h ⟨s, z⟩)
  · rintro rfl; rfl
/-- the strings that may stand first -/
def HdS (S : List Str) (v : PyData) : Prop := ∀ s r, v = .tuple (.str s :: r) → s ∈ S
def okS (S T : List Str) : Bool := S.all fun s => T.all fun t => decide (PyData.shown (.str s) = PyData.shown (.str t)) == decide (s = t)
theorem head_in {f : Bool} {S T : List Str} {dp wt : Nat} (hST : okS S T = true) {x : PyData} {r : List PyData} (h : Sg f (dp + 1) wt (.tuple (x :: r))) (hS : HdS S (.tuple (x :: r))) (hdp : dp ≤ 58 := by decide) (hw : 42 * (wt + 1) + 40 ≤ 16777216 := by decide) :
    ∃ z, reprO (.tuple [x]) = some z ∧ ∀ t ∈ T, (z = (PyData.tuple [.str t]).shown ↔ x = .str t) := by
  have hx := h.parts.mem x List.mem_cons_self
  have h1 : Sg f (dp + 1) (wt + 1 + 0) (.tuple [x]) := Sg.tup (Sgs.cons hx (Sgs.nil.mono (Nat.zero_le _) (Nat.le_refl _)))
  refine ⟨_, (h1.mono (by omega) (Nat.le_refl _)).rep (by omega), fun t ht => shown_one fun s e1 e2 => ?_⟩
  subst e1
  have := List.all_eq_true.mp (List.all_eq_true.mp hST s (hS s r rfl)) t ht
  rw [beq_iff_eq, decide_eq_decide] at this
  exact this.mp e2
end
end Pz

namespace Pz
open PySem PySem.Spec PyProof.Rows L2
section
variable {α β γ δ κ ρ ι : Type} {ea : α → PyData} {eb : β → PyData} {ec : γ → PyData} {er : ρ → PyData} {ei : ι → PyData} {X : Cx} {R : Res} {Γ Γ' : List Slot} {e a b c : Expr} {st : Stmt} {rest A B body : List Stmt} {pos : Pos} {out : κ → OutD}
/-! ### a, b = [..], ..: the first is an own list -/
theorem q_par2p (i j : Nat) {x y : Str} {a b : Expr} {px py pt : Pos} {kt k2 pt2} {ma : M (List α)} {mb : M β} (ha : EF X R Γ a ea ma) (hb : EJ X R Γ b eb mb) (hn : NL eb) (hc : X.calm = true) (hN : X.N.Nodup) (hi : X.N[i]? = some x := by rfl) (hj : X.N[j]? = some y := by rfl) (hij : i ≠ j := by decide)
    (hx : X.env.scope.names.lookup x = some .local := by rfl) (hy : X.env.scope.names.lookup y = some .local := by rfl)
    (hw : swappedStores [.Tuple [.Name x px, .Name y py] kt pt] (.Tuple [a, b] k2 pt2) X.env = pure (some [x, y]) := by rfl)
    (hs : swapsWithSole [.Tuple [.Name x px, .Name y py] kt pt] (.Tuple [a, b] k2 pt2) pos.line X.env = pure false := by rfl)
    (hs1 : starEach [a, b] X.env = (false, eval a X.env) :: starEach [b] X.env := by rfl) (hs2 : starEach [b] X.env = (false, eval b X.env) :: starEach [] X.env := by rfl) :
    QJ X R Γ (.Assign [.Tuple [.Name x px, .Name y py] kt pt] (.Tuple [a, b] k2 pt2) pos) (fun p : List α × β => .nx ((Γ.set i (.ow (eL ea p.1))).set j (.fz (eb p.2)))) (bindM ma fun u => bindM mb fun v => pureM (u, v)) := by
  refine PS.weak (ps_par hc hN hi hj hij hx hy (pa_cons ha (pa_cons hb pa_nil hs2) hs1) hw hs) fun D σ H ⟨O, H0, ow, st, z, st', rel, ok, e, q⟩ => ?_
  obtain ⟨u, s1, e1, e2⟩ := bind_some e
  obtain ⟨v, s2, e3, e4⟩ := bind_some e2
  obtain ⟨rfl, rfl⟩ := pure_some e4
  refine ⟨O, H0, ow, st, u, s1, rel, ok, e1, fun p vs H1 n1 k1 o1 ep r1 => ?_⟩
  have rel1 := rel.grow k1 (okZ o1)
  refine ⟨O, H0, ow, s1, v, s2, rel1, o1, e3, fun vx H2 k2 o2 r2 => ?_⟩
  have np : ¬ Pz.avo O Γ ow p := rel.ad.fresh n1
  have ep2 : H2 p = some (.lst vs) := k2 _ _ (fun z => np (rel.zavo z)) ep
  have kA := rel1.keepA k2
  have r1' : RpAll (avp (Pz.avo O Γ ow) p) H2 vs (u.map ea) := r1.keep fun a o na h => kA a o (fun z => na (.inl z)) h
  obtain ⟨rel2, stp⟩ := rel.setOw i n1 (k1.trans k2) (okZ o2) ep2 r1'
  have r2' : Rp (Pz.avo O (Γ.set i (.ow (.list (u.map ea)))) (fun l => if l = i then p else ow l)) H2 vx (eb v) := by
    refine noL_rp (fun a xs na ha za => ?_) _ _ (hn v) r2
    rcases za with za | ⟨l, d, e5, e6⟩
    · exact na (.inl za)
    · by_cases hl : l = i
      · dsimp only at e6
        rw [if_pos hl] at e6
        rw [← e6, ep2] at ha
        cases ha
      · dsimp only at e6
        rw [if_neg hl] at e6
        rw [List.getElem?_set_ne (fun z => hl z.symm)] at e5
        exact na (.inr ⟨l, d, e5, e6⟩)
  refine ⟨.ref p, vx, rfl, q _ _ H2 (rel2.setFz j r2') o2 ⟨rel.keepA (k1.trans k2), fun l d e5 => stp.sub l d (set_noow _ _ e5)⟩⟩
def asOI : PyData → Option (Option Int)
  | .none => some none
  | .int i => some (some i)
  | _ => none
theorem asOI_eq (x : PyData) (y : Option Int) (q : asOI x = some y) : x = eO eInt y := by cases x <;> cases q <;> rfl
end
end Pz

namespace Pz
open PySem PySem.Spec PyProof.Rows L2
theorem Sat.forR {β : Type} {f : β → Int → M β} {I : Int → β → Prop} : ∀ (m : Nat) {lo hi : Int} {b0 : β}, (hi - lo).toNat = m → lo ≤ hi → I lo b0 → (∀ i b, lo ≤ i → i < hi → I i b → Sat (f b i) (I (i + 1))) → Sat (forM' f (irange lo hi) b0) (I hi)
  | 0, lo, hi, b0, e, hl, h0, _ => by
    have : lo = hi := by omega
    subst this
    rw [irange_nil (Int.le_refl _)]
    exact .pure h0
  | m + 1, lo, hi, b0, e, hl, h0, h => by
    rw [irange_cons (by omega)]
    unfold forM'
    exact .bind2 (h lo b0 (Int.le_refl _) (by omega) h0) fun b hb => Sat.forR m (by omega) (by omega) hb fun i b hi => h i b (by omega)
theorem Sgs.len {f : Bool} {dp wt : Nat} : ∀ {ds : List PyData}, Sgs f dp wt ds → ds.length ≤ wt
  | [], _ => Nat.zero_le _
  | d :: ds, h => by
    have h1 : PyData.weightAll (d :: ds) ≤ wt := h.wgt
    have aux : ∀ l : List PyData, l.length ≤ PyData.weightAll l := by
      intro l
      induction l with
      | nil => simp
      | cons a l ih => simp only [List.length_cons, PyData.weightAll]; omega
    have := aux (d :: ds)
    omega
end Pz

/-! blocks in blocks; sorted of tuples, of lists among whose tuples empty ones are -/
namespace PzS
open PySem PySem.W PySem.Calls PySem.SeqAt PyProof.Rows
section
variable {prog : Program} {w : World} {A : Around} {E : Value → Shared → Prop} {s : Shared}
theorem call_tuple_lt {Q : Value → Shared → Prop} {l b : Addr} {items items2 : Array Value} {e r : Nat → Bool} (hl : s.heap.IsTuple l items) (hb : s.heap.IsTuple b items2)
    (he : ∀ j (h1 : j < items.size) (h2 : j < items2.size), EqAt A.in1 s items[j] items2[j] (e j)) (hr : ∀ j (h1 : j < items.size) (h2 : j < items2.size), e j = false → RcLt A.in1 s items[j] items2[j] (r j))
    (h : Q (.bool (firstLt e r (decide (items.size < items2.size)) (List.range (min items.size items2.size)))) s) : wpAny (model prog w) A (call (.builtin "tuple.__lt__") [.ref l, .ref b]) Q E s := by
  obtain ⟨⟨cls, dd, data, sl⟩, ho, hc, n, hd⟩ := id hl
  obtain ⟨⟨cls2, dd2, data2, sl2⟩, ho2, hc2, n2, hd2⟩ := id hb
  simp only at hc hd hc2 hd2
  subst hc hd hc2 hd2
  exact call_meets F.slot_tuple_lt ⟨_, ho, rfl⟩ F.entry_tuple_lt (F.args_tuple_lt_2 _ _) (tuple_ltAt l b items items2 n n2 dd dd2 sl sl2 e r) ⟨ho, ho2, he, hr, h⟩
theorem oneLt_tup {xs ys : List PyData} {a b : Value} {as bs : List Addr} {Q : Bool → Shared → Prop} (ra : Reads s.heap a (.tuple xs) as) (rb : Reads s.heap b (.tuple ys) bs) (h : alike (.tuple xs) (.tuple ys) = true)
    (hu : A.units + min (PyData.depth (.tuple xs)) (PyData.depth (.tuple ys)) < cLine) (hq : Q (dataLt (.tuple xs) (.tuple ys)) s) : wpAny (model prog w) A (oneLt' true a b) Q E s := by
  have hal : alikeAll xs ys = true := by simpa [alike] using h
  cases ra with
  | @tuple l o vs n _ as₁ h1 h2 h3 h4 =>
    cases rb with
    | @tuple l' o' vs' n' _ bs₁ k1 k2 k3 k4 =>
      have n1 : vs.size = xs.length := by simpa using ReadsAll.length _ _ _ h4
      have n2 : vs'.size = ys.length := by simpa using ReadsAll.length _ _ _ k4
      rw [dataLt_tuple, ← firstLt_toks xs ys hal, ← n1, ← n2] at hq
      rw [oneLt'_eq]
      simp only [if_true]
      refine wpAny_bind (wpAny_cRoomFor (room_here hu) ?_)
      refine wpAny_bind (wpAny_callSpecialIfBound?_slot (T := "tuple") ⟨_, h1, h2⟩ F.slot_tuple_lt (call_tuple_lt (e := pairEq xs ys) (r := fun j => dataLt (xs.getD j .none) (ys.getD j .none)) ⟨_, h1, h2, _, h3⟩ ⟨_, k1, k2, _, k3⟩ (fun j j1 j2 => ?_) (fun j j1 j2 hj => ?_) ?_))
      · have := eqAt_alikeAll xs ys A.in1 s vs.toList vs'.toList _ _ h4 k4 hal (room_in hu) j (by simpa using j1) (by simpa using j2)
        simpa using this
      · have := rcLt_alikeAll xs ys A.in1 s vs.toList vs'.toList _ _ h4 k4 hal (room_in hu) j (by simpa using j1) (by simpa using j2) hj
        simpa using this
      · exact wpAny_truthy_bool hq
theorem firsts_any {M : Model} : ∀ {vs : List Value} {ds : List PyData}, EachIs (fun v d => ∃ as, Reads s.heap v d as) vs ds → (∀ d, d ∈ ds → ∃ xs, d = .tuple xs) →
    ∃ fo : List (Option Value), fo.length = vs.length ∧ (∀ (E : Value → Shared → Prop) (Q : List (Option Value) → Shared → Prop), Q fo s → wpAny M A (vs.mapM firstOfTuple') Q E s) ∧ ((∀ f ∈ fo, f.isSome = true) → ∀ d ∈ ds, ∃ x r, d = .tuple (x :: r))
  | _, _, .nil, _ => ⟨[], rfl, fun E Q h => by rw [List.mapM_nil]; exact wpAny_pure h, fun _ d hd => absurd hd (by simp)⟩
  | _, _, .cons (a := v) (b := d) ⟨as, r⟩ t, ht => by
    obtain ⟨fo, h1, h2, h3⟩ := firsts_any (M := M) t fun d hd => ht d (List.mem_cons_of_mem _ hd)
    obtain ⟨ys, rfl⟩ := ht d (List.mem_cons_self ..)
    cases r with
    | @tuple a o xs n _ _ ho hc hd hr =>
      refine ⟨xs[0]? :: fo, by rw [List.length_cons, List.length_cons, h1], fun E Q h => ?_, fun hs d hd2 => ?_⟩
      · rw [List.mapM_cons]
        refine wpAny_bind ?_
        rw [kas_first_eq]
        refine wpAny_bind (Looks.here (show Looks M s.heap (typeOf (.ref a)) o.cls from (Looks.ld ho).andThen .now) ?_)
        rw [hc, if_neg (by first | decide | simp)]
        refine wpAny_bind (listItems_at ho hd (wpAny_pure ?_))
        exact wpAny_bind (h2 E (fun bs s' => wpAny M A (pure (xs[0]? :: bs)) Q E s') (wpAny_pure h))
      · rcases List.mem_cons.mp hd2 with rfl | hd2
        · have h0 := hs _ (List.mem_cons_self ..)
          cases ys with
          | cons y r => exact ⟨y, r, rfl⟩
          | nil =>
            cases q : xs.toList with
            | nil =>
              have : xs[0]? = none := by rw [← Array.getElem?_toList, q]; rfl
              rw [this] at h0; cases h0
            | cons f fr => rw [q] at hr; cases hr
        · exact h3 (fun f hf => hs f (List.mem_cons_of_mem _ hf)) d hd2
/-- tuples that read as alike data can be sorted, empty ones too -/
theorem sorts_tups {vs : List Value} {ds : List PyData} (e : EachIs (fun v d => ∃ as, Reads s.heap v d as) vs ds) (hal : AllAlike ds) (ht : ∀ d, d ∈ ds → ∃ xs, d = .tuple xs) (hu : ∀ d, d ∈ ds → A.units + d.depth < cLine) : SortsAt prog w A s (dataKind s.heap ds) vs := by
  by_cases hne : ∀ d, d ∈ ds → ∃ x r, d = .tuple (x :: r)
  · exact SortsAt.data e hal (.inl hne) hu
  have room : ∀ {d d' : PyData}, d ∈ ds → A.units + min d.depth d'.depth < cLine := fun {d d'} hd => Nat.lt_of_le_of_lt (Nat.add_le_add_left (Nat.min_le_left _ _) _) (hu d hd)
  refine ⟨fun v hv => ?_, ?_⟩
  · obtain ⟨d, hd, as, r⟩ := e.left v hv
    exact ⟨_, dataKind_some hal hd r⟩
  · obtain ⟨fo, f1, f2, f3⟩ := firsts_any (M := model prog w) (A := A) e ht
    have hall : (fo.toArray.all fun x => x.isSome) = false := by
      cases q : (fo.toArray.all fun x => x.isSome) with
      | false => rfl
      | true =>
        rw [List.all_toArray, List.all_eq_true] at q
        exact absurd (f3 q) hne
    by_cases h0 : (fo.toArray[0]?.bind id).isSome = true
    · refine ⟨general', ?_, fun h2 E Q hq => ?_⟩
      · intro E x y a b Q ha hb hq
        obtain ⟨d, as, hd, ra, rfl⟩ := dataKind_inv ha
        obtain ⟨d', as', hd', rb, rfl⟩ := dataKind_inv hb
        show wpAny (model prog w) A (oneLt' false x y) Q E s
        obtain ⟨xs, rfl⟩ := ht d hd
        exact oneLt_alike (fun z => absurd z (by simp)) ra rb (hal _ hd d' hd') (fun z => nomatch z) (room hd) hq
      · rw [kat_kind_eq, List.mapM_toArray, map_eq_pure_bind]
        refine wpAny_bind (wpAny_bind (f2 _ _ (wpAny_pure ?_)))
        rw [if_neg (by rw [hall]; simp), if_pos h0]
        exact wpAny_pure hq
    · refine ⟨oneType', ?_, fun h2 E Q hq => ?_⟩
      · intro E x y a b Q ha hb hq
        obtain ⟨d, as, hd, ra, rfl⟩ := dataKind_inv ha
        obtain ⟨d', as', hd', rb, rfl⟩ := dataKind_inv hb
        rw [keyLt'_oneType]
        obtain ⟨xs, rfl⟩ := ht d hd
        obtain ⟨ys, rfl⟩ := ht d' hd'
        exact oneLt_tup ra rb (hal _ hd _ hd') (room hd) hq
      · rw [kat_kind_eq, List.mapM_toArray, map_eq_pure_bind]
        refine wpAny_bind (wpAny_bind (f2 _ _ (wpAny_pure ?_)))
        rw [if_neg (by rw [hall]; simp), if_neg h0]
        obtain ⟨v₁, v₂, rest, rfl⟩ : ∃ v₁ v₂ rest, vs = v₁ :: v₂ :: rest := by
          match vs, h2 with
          | [], h2 => simp at h2
          | [_], h2 => simp at h2
          | v₁ :: v₂ :: rest, _ => exact ⟨v₁, v₂, rest, rfl⟩
        rw [oneTypeOnly'_eq, List.mapM_toArray, map_eq_pure_bind]
        refine wpAny_bind (wpAny_bind (wpAny_bind (kas_mapM (r := Value.type "tuple") _ (fun v hv Q' hq => ?_) (wpAny_pure ?_))))
        · obtain ⟨d, hd, as, r⟩ := e.left v hv
          obtain ⟨xs, rfl⟩ := ht d hd
          exact (looks_reads r).here hq
        have hall2 : ((List.map (fun _ => Value.type "tuple") (v₁ :: v₂ :: rest)).toArray.all fun x => x == Value.type "tuple") = true := by
          simp only [List.all_toArray, List.all_map, List.all_eq_true]
          intro _ _
          exact beq_self_eq_true _
        have h00 : (List.map (fun _ => Value.type "tuple") (v₁ :: v₂ :: rest)).toArray[0]? = some (Value.type "tuple") := by simp
        rw [h00]
        simp only [hall2, if_true]
        exact wpAny_pure (wpAny_pure hq)
/-- sorted(xs) of anything that is collected -/
theorem sorted_coll {v : Value} {vs : List Value} {Q : Value → Shared → Prop} (ha1 : argsOk "sorted" ⟨[v], []⟩) (hL : vs.length ≤ sizeLine)
    (hc : ∀ (E' : Value → Shared → Prop) (Q' : List Value → Shared → Prop), (∀ (h' : Heap) (tk : Nat), (∀ b o, s.heap.get? b = some o → h'.get? b = some o) → Q' vs { s with heap := h', toks := tk }) → wpAny (model prog w) A.in1 (collect v) Q' E' s)
    (S : ∀ (h' : Heap) (tk : Nat), (∀ b o, s.heap.get? b = some o → h'.get? b = some o) → ∃ κ, SortsAt prog w A.in1.in1 { s with heap := sortingHeap (h'.push (seqObj "list" vs.toArray 0)) h'.objs.size vs, toks := tk } κ vs ∧
      Q (.ref h'.objs.size) { s with heap := sortedHeap (h'.push (seqObj "list" vs.toArray 0)) h'.objs.size vs (sortVals κ false vs vs).toArray, toks := tk }) :
    wpAny (model prog w) A (call (.builtin "sorted") [v]) Q E s := by
  refine call_function_entry_kw kind_sorted plain_sorted entry_sorted ha1 ?_
  unfold Builtin.«sorted»
  refine wpAny_bind (m := checkCount "sorted" 1 1 _) (wpAny_pure ?_)
  refine wpAny_bind (hc _ _ fun h' tk hk => ?_)
  obtain ⟨κ, S1, hQ⟩ := S h' tk hk
  refine wpAny_bind (wpAny_newList ?_ hL)
  have hat : (h'.push (seqObj "list" vs.toArray 0)).get? h'.objs.size = some (seqObj "list" vs.toArray 0) := Heap.get?_push_size _ rfl
  refine wpAny_bind (wpAny_holding (wpAny_call_entry_kw slot_list_sort ⟨_, hat, rfl⟩ entry_list_sort ?body (args_list_sort _)))
  case body =>
    refine wpAny_mono (list_sort_vals (P := fun f s' => f = .done (.ret .none) ∧ Q (.ref h'.objs.size) s') (s := { s with heap := h'.push (seqObj "list" vs.toArray 0), toks := tk }) hat S1 hL ⟨rfl, hQ⟩) (fun f s' hf => ?_) fun _ _ e => e
    obtain ⟨rfl, hq⟩ := hf
    exact ⟨_, rfl, wpAny_pure ⟨_, rfl, hq⟩⟩
end
end PzS
namespace Pz
open PySem PySem.Spec PyProof.Rows L2
section
variable {α β γ δ κ ρ ι : Type} {ea : α → PyData} {eb : β → PyData} {ec : γ → PyData} {X : Cx} {R : Res} {Γ Γ' : List Slot} {e a b c : Expr} {pos : Pos}
theorem blkOk_in {s : Shared} {H : Hp} {C : Addr} {cl : List (Str × Addr)} {fp : List Addr} {sc0 scope : Scope} {own : List (Str × Nat)} (N : List Str) (hN : X.N = N) (h : blkC N sc0 scope own = true) :
    BlkOk (X.blk s H sc0 (compEnvC sc0 cl C X.env) fp).N (X.blk s H sc0 (compEnvC sc0 cl C X.env) fp).env.scope scope own := by
  subst hN
  have k : BlkOk X.N sc0 scope own := blkOk_by h
  have aux : ∀ {names : List (Str × NameKind)} {x : Str}, names.lookup x = some .cell ∨ names.lookup x = some .free →
      (names.map fun (n, k) => if (k == NameKind.free && X.env.scope.kind == .function && X.env.kindOf n == some .cell) then (n, NameKind.cell) else (n, k)).lookup x = some .cell ∨
      (names.map fun (n, k) => if (k == NameKind.free && X.env.scope.kind == .function && X.env.kindOf n == some .cell) then (n, NameKind.cell) else (n, k)).lookup x = some .free := by
    intro names x
    induction names with
    | nil => intro h; simp at h
    | cons p r ih =>
      obtain ⟨n, k⟩ := p
      intro h
      show List.lookup x ((if (k == NameKind.free && X.env.scope.kind == .function && X.env.kindOf n == some .cell) = true then (n, NameKind.cell) else (n, k)) :: _) = _ ∨ List.lookup x ((if (k == NameKind.free && X.env.scope.kind == .function && X.env.kindOf n == some .cell) = true then (n, NameKind.cell) else (n, k)) :: _) = _
      cases hx : x == n with
      | true =>
        simp only [List.lookup_cons, hx, Option.some.injEq] at h
        split
        · left; simp only [List.lookup_cons, hx]
        · simp only [List.lookup_cons, hx, Option.some.injEq]; exact h
      | false =>
        simp only [List.lookup_cons, hx] at h
        split
        · simp only [List.lookup_cons, hx]; exact ih h
        · simp only [List.lookup_cons, hx]; exact ih h
  exact ⟨k.kind, k.uniq, k.ix, fun y hy e => aux (k.free y hy e), k.own⟩
structure SrtA (e : α → PyData) : Prop where
  alike : ∀ x y, PySem.W.alike (e x) (e y) = true
  kind : (∀ x, ∃ ds, e x = .tuple ds) ∨ ∀ x, e x ≠ .none ∧ ∀ ds, e x ≠ .tuple ds
  depth : ∀ x, (e x).depth ≤ 60
theorem Srt.toA {ok : α → Bool} (h : Srt ok ea) (hk : (∀ x, ∃ ds, ea x = .tuple ds) ∨ ∀ x, ea x ≠ .none ∧ ∀ ds, ea x ≠ .tuple ds) : SrtA ea := ⟨h.alike, hk, h.depth⟩
theorem SrtA.rows : SrtA (eT eInt) := Srt.toA Srt.rows (.inl fun x => ⟨_, rfl⟩)
theorem SrtA.ints : SrtA eInt := Srt.toA Srt.ints (.inr fun x => ⟨(fun z => nomatch z), fun ds z => nomatch z⟩)
theorem SrtA.sorts {prog : Program} {w : World} {A : Around} {s : Shared} (hs : SrtA ea) {vs : List Value} {bs : List α} (e : PySem.W.EachIs (fun v b => ∃ as, Reads s.heap v (ea b) as) vs bs) (hu : A.units + 61 < cLine) :
    PySem.W.SortsAt prog w A s (PySem.W.dataKind s.heap (bs.map ea)) vs := by
  have e' := PySem.W.each_map (R := fun v d => ∃ as, Reads s.heap v d as) ea e
  have hd : ∀ d, d ∈ bs.map ea → A.units + d.depth < cLine := fun d hd => by
    obtain ⟨b, _, rfl⟩ := List.mem_map.mp hd
    have := hs.depth b
    omega
  rcases hs.kind with h | h
  · exact PzS.sorts_tups e' (PySem.W.AllAlike.of hs.alike) (fun d hd => by obtain ⟨b, _, rfl⟩ := List.mem_map.mp hd; exact h b) hd
  · exact PySem.W.SortsAt.data e' (PySem.W.AllAlike.of hs.alike) (PySem.W.Sortable.others h) hd
/-- what sorted makes of the collected items -/
theorem sorted_fin (hs : SrtA ea) (hu : X.A.units + 64 < cLine) {pins : List (Addr × Obj)} {σ : L2.St} {H : Hp} {s : Shared} (I : Inv X pins σ H s) {A : Av} {bs : List α} {us : List Value} {v : Value} {Q : VK}
    (each : PySem.W.EachIs (fun v b => ∃ x, RelV x v ∧ Rp A H x (ea b)) us bs) (hL : us.length ≤ sizeLine)
    (hc : ∀ (E' : Value → Shared → Prop) (Q' : List Value → Shared → Prop), (∀ (h' : Heap) (tk : Nat), (∀ b o, s.heap.get? b = some o → h'.get? b = some o) → Q' us { s with heap := h', toks := tk }) → wpAny (model X.prog X.w) X.A.in1 (collect v) Q' E' s)
    (q : ∀ q ws, H q = none → RpAll A H ws ((srt ea bs).map ea) → Q (.ref q) (upd H q (.lst ws))) :
    wpAny (model X.prog X.w) X.A (call (.builtin "sorted") [v]) (EP X pins σ Q) X.xe s := by
  refine PzS.sorted_coll (PyProof.Rows.args_sorted1 _) hL hc fun h' tk hk => ?_
  have I1 : Inv X pins σ H { s with heap := h', toks := tk } := I.kept hk
  have old : ∀ b o, h'.get? b = some o → (h'.push (seqObj "list" us.toArray 0)).get? b = some o := fun b o e => Heap.get?_push_of_some _ e
  have er : PySem.W.EachIs (fun v b => ∃ as, Reads (PySem.W.sortingHeap (h'.push (seqObj "list" us.toArray 0)) h'.objs.size us) v (ea b) as) us bs :=
    (each_reads I each).mono fun _ _ ⟨as, r⟩ => ⟨as, PyProof.Rows.Reads.keeps (fun b o e => PySem.W.sortingHeap_old (Nat.ne_of_lt (Heap.lt_size (hk b o e))) (old b o (hk b o e))) r⟩
  refine ⟨_, hs.sorts (s := { s with heap := PySem.W.sortingHeap (h'.push (seqObj "list" us.toArray 0)) h'.objs.size us, toks := tk }) er (by show X.A.units + 1 + 1 + 61 < cLine; omega), ?_⟩
  have eo := PySem.W.sortVals_data (h' := PySem.W.sortingHeap (h'.push (seqObj "list" us.toArray 0)) h'.objs.size us) false each er (PySem.W.AllAlike.of hs.alike)
  obtain ⟨ws, h1, h2⟩ := rp_each eo
  have hat : (h'.push (seqObj "list" us.toArray 0)).get? h'.objs.size = some (seqObj "list" us.toArray 0) := Heap.get?_push_size _ rfl
  generalize hout : PySem.W.sortVals (PySem.W.dataKind (PySem.W.sortingHeap (h'.push (seqObj "list" us.toArray 0)) h'.objs.size us) (bs.map ea)) false us us = out at h1 eo
  obtain ⟨c, hc2⟩ := sortedHeap_at (vs := us) (out := out.toArray) hat
  have fr : H h'.objs.size = none := I1.hok.fresh (Nat.le_refl _)
  have e1 := h1.length
  have e2 := eo.length
  have e3 := each.length
  refine ⟨.ref _, _, I1.laid (o := .lst ws) (t' := tk) (h' := sortedHeap (h'.push (seqObj "list" us.toArray 0)) h'.objs.size us out.toArray) (fun b o e => ?_) (Nat.le_refl _) ⟨?_, out, c, h1, hc2⟩, rfl, q _ ws fr h2⟩
  · have hlt := Heap.lt_size e
    have e5 : b < (h'.push (seqObj "list" us.toArray 0)).objs.size := by rw [Heap.size_push]; exact Nat.lt_succ_of_lt hlt
    exact (sortedHeap_old (Nat.ne_of_lt hlt) e5).trans (old b o e)
  · show ws.length ≤ sizeLine
    rw [List.length_mergeSort] at e2
    omega
def rSortA (ea : α → PyData) : List V → Hp → VK → Prop := fun xs H Q => ∃ A p vs bs, xs = [.ref p] ∧ (H p = some (.lst vs) ∨ H p = some (.tup vs)) ∧ RpAll A H vs (bs.map ea) ∧
  ∀ q ws, H q = none → RpAll A H ws ((srt ea bs).map ea) → Q (.ref q) (upd H q (.lst ws))
theorem call_sortA (hs : SrtA ea) (hu : X.A.units + 64 < cLine) : CallR X (.builtin "sorted") (rSortA ea) := fun pins s σ H xs us Q I r h => by
  obtain ⟨A, p, vs, bs, rfl, hp, hr, q⟩ := h
  obtain ⟨u, rfl, ru⟩ := vals1 r
  cases ru
  rcases hp with hp | hp
  · obtain ⟨its, rv, pl, hz⟩ := I.list (SqL.of hp)
    obtain ⟨o, ho, hcl, n, hd⟩ := pl.isList
    have hl := rv.length
    refine sorted_fin hs hu I (each_rp I hr rv) (by omega) (fun E' Q' hq => ?_) q
    refine wpAny_collect_seq (A := X.A.in1) p (.inl rfl) ho hcl hd (fun h' hk => ?_) (by simp; omega)
    have := hq h' s.toks hk
    simpa using this
  · obtain ⟨its, rv, pl, hz⟩ := I.tuple (SqT.of hp)
    obtain ⟨o, ho, hcl, n, hd⟩ := pl
    have hl := rv.length
    refine sorted_fin hs hu I (each_rp I hr rv) (by omega) (fun E' Q' hq => ?_) q
    refine wpAny_collect_seq (A := X.A.in1) p (.inr rfl) ho hcl hd (fun h' hk => ?_) (by simp; omega)
    have := hq h' s.toks hk
    simpa using this
theorem v_sortAL : VNF (rSortA ea) (fun x : List α × Unit => [eL ea x.1]) ea (fun x => some (srt ea x.1)) := fun A H x vs Q z ad r e q => by
  cases e
  cases r with
  | cons r1 r2 =>
    cases r2
    cases r1 with
    | lst na ha hr => exact ⟨A, _, _, _, rfl, .inl ha, hr, fun p ws n r => q p ws _ n (same_new n) upd_same (r.at n (Keep.of_same (same_new n)))⟩
theorem v_sortAT : VNF (rSortA ea) (fun x : List α × Unit => [eT ea x.1]) ea (fun x => some (srt ea x.1)) := fun A H x vs Q z ad r e q => by
  cases e
  cases r with
  | cons r1 r2 =>
    cases r2
    cases r1 with
    | tup na ha hr => exact ⟨A, _, _, _, rfl, .inr ha, hr, fun p ws n r => q p ws _ n (same_new n) upd_same (r.at n (Keep.of_same (same_new n)))⟩
end
end Pz

/-! the plain side, part three: lots, told data, the values that are judged -/
namespace Pz
open PySem PySem.Spec PyProof.Rows L2
/-- the lots of at most k of m points, as the law makes them -/
def lawF (k : Int) : Nat → List (List Int)
  | 0 => [[]]
  | m + 1 => lawF k m ++ ((lawF k m).filter fun l => decide ((l.length : Int) < k)).map fun l => l ++ [(m : Int)]
theorem lawF_len (k : Int) : ∀ m : Nat, (lawF k m).length ≤ 2 ^ m
  | 0 => by simp [lawF]
  | m + 1 => by
    have ih := lawF_len k m
    have := List.length_filter_le (fun l : List Int => decide ((l.length : Int) < k)) (lawF k m)
    simp only [lawF, List.length_append, List.length_map, Nat.pow_succ]
    omega
theorem lawF_mem {k : Int} (hk : 0 ≤ k) : ∀ {m : Nat} {l : List Int}, l ∈ lawF k m ↔ Lot m l ∧ (l.length : Int) ≤ k
  | 0, l => by
    simp only [lawF, List.mem_singleton]
    constructor
    · rintro rfl; exact ⟨⟨.nil, by simp⟩, by simpa using hk⟩
    · rintro ⟨h, _⟩
      cases l with
      | nil => rfl
      | cons x r => have := h.2 x (by simp); omega
  | m + 1, l => by
    simp only [lawF, List.mem_append, List.mem_map, List.mem_filter, decide_eq_true_eq]
    constructor
    · rintro (h | ⟨q, ⟨h, hq⟩, rfl⟩)
      · obtain ⟨h1, h2⟩ := (lawF_mem hk).mp h
        exact ⟨⟨h1.1, fun x hx => by have := h1.2 x hx; omega⟩, h2⟩
      · obtain ⟨h1, h2⟩ := (lawF_mem hk).mp h
        refine ⟨⟨List.pairwise_append.mpr ⟨h1.1, by simp, fun x hx y hy => ?_⟩, fun x hx => ?_⟩, by simp; omega⟩
        · rw [List.mem_singleton] at hy; have := h1.2 x hx; omega
        · rcases List.mem_append.mp hx with hx | hx
          · have := h1.2 x hx; omega
          · rw [List.mem_singleton] at hx; omega
    · rintro ⟨h, hl⟩
      rcases List.eq_nil_or_concat l with rfl | ⟨q, b, rfl⟩
      · exact .inl ((lawF_mem hk).mpr ⟨⟨.nil, by simp⟩, by simpa using hk⟩)
      · rw [List.concat_eq_append] at *
        obtain ⟨hq, h1, h2⟩ := lot_snoc.mp h
        by_cases hb : b = m
        · refine .inr ⟨q, ⟨(lawF_mem hk).mpr ⟨⟨hq.1, fun x hx => ?_⟩, by simp at hl; omega⟩, by simp at hl; omega⟩, by rw [hb]⟩
          have := (lot_next hq).2 x hx
          have := (hq.2 x hx).1
          omega
        · refine .inl ((lawF_mem hk).mpr ⟨⟨h.1, fun x hx => ?_⟩, hl⟩)
          have h3 := h.2 x hx
          rcases List.mem_append.mp hx with hx | hx
          · have := (lot_next hq).2 x hx; omega
          · rw [List.mem_singleton] at hx; omega
theorem lawF_nodup {k : Int} (hk : 0 ≤ k) : ∀ m : Nat, (lawF k m).Nodup
  | 0 => by simp [lawF]
  | m + 1 => by
    unfold lawF
    rw [List.nodup_append]
    refine ⟨lawF_nodup hk m, ?_, fun a ha b hb e => ?_⟩
    · have h := (lawF_nodup hk m).filter (fun l : List Int => decide ((l.length : Int) < k))
      exact List.Pairwise.map _ (fun a b hab e => hab (List.append_cancel_right e)) h
    · obtain ⟨q, _, rfl⟩ := List.mem_map.mp hb
      subst e
      have := (((lawF_mem hk).mp ha).1).2 m (by simp)
      omega
theorem lot_le {n : Int} : ∀ (m : Nat) {l : List Int}, l.length = m → Lot n l → (l.length : Int) ≤ nextL l
  | 0, l, e, _ => by rw [List.eq_nil_of_length_eq_zero e]; decide
  | m + 1, l, e, h => by
    rcases List.eq_nil_or_concat l with rfl | ⟨q, b, rfl⟩
    · simp at e
    · rw [List.concat_eq_append] at *
      obtain ⟨hq, h1, _⟩ := lot_snoc.mp h
      have ih := lot_le m (by simpa using e) hq
      rw [nextL_snoc]
      simp
      omega
theorem lot_len {n : Int} {l : List Int} (h : Lot n l) (h0 : 0 ≤ n) : (l.length : Int) ≤ n := by
  have h1 := lot_le l.length rfl h
  rcases List.eq_nil_or_concat l with rfl | ⟨q, b, rfl⟩
  · simpa using h0
  · rw [List.concat_eq_append] at *
    have := (lot_snoc.mp h).2.2
    rw [nextL_snoc] at h1
    omega
theorem next_read (l : List Int) : (if (!decide (l = [])) = true then Pz.bindM (optM (atI l (-1))) fun x => pureM (x + 1) else pureM 0) = pureM (nextL l) := by
  rcases List.eq_nil_or_concat l with rfl | ⟨q, b, rfl⟩
  · rfl
  · rw [List.concat_eq_append, nextL_snoc]
    simp [atI_lastq, bp]
theorem lots_len {n : Int} (h10 : n ≤ 10) : ∀ k : Nat, (lotsL n k).length ≤ 10 ^ k
  | 0 => by simp [lotsL]
  | k + 1 => by
    have ih := lots_len h10 k
    have : (lotsL n (k + 1)).length ≤ (lotsL n k).length * 10 := by
      have aux : ∀ (xs : List (List Int)), (∀ l ∈ xs, Lot n l) → (xs.flatMap fun l => (irange (nextL l) n).map fun b => l ++ [b]).length ≤ xs.length * 10 := by
        intro xs
        induction xs with
        | nil => intro _; simp
        | cons l xs ih2 =>
          intro hx
          have h1 := ih2 fun q hq => hx q (List.mem_cons_of_mem _ hq)
          have h2 := (lot_next (hx l List.mem_cons_self)).1
          simp only [List.flatMap_cons, List.length_append, List.length_map, length_irange, List.length_cons]
          omega
      exact aux _ fun l hl => (mem_lotsL.mp hl).1
    rw [Nat.pow_succ]
    omega
theorem lot_take {n : Int} {l : List Int} (h : Lot n l) {i : Nat} {b a : Int} (hb : l[i]? = some b) (ha : a ∈ l.take i) : a < b := by
  obtain ⟨hi, e⟩ := List.getElem?_eq_some_iff.mp hb
  have : l = l.take i ++ l.drop i := (List.take_append_drop i l).symm
  have hp := h.1
  rw [this] at hp
  have hd : b ∈ l.drop i := by rw [List.drop_eq_getElem_cons hi, e]; exact List.mem_cons_self
  exact (List.pairwise_append.mp hp).2.2 a ha b hd
theorem chain_zip : ∀ xs : List Int, ((xs.zip xs.tail).all fun p => decide (p.1 < p.2)) = decide (xs.Pairwise (· < ·))
  | [] => by simp
  | [x] => by simp
  | x :: y :: r => by
    have ih := chain_zip (y :: r)
    simp only [List.tail_cons, List.zip_cons_cons, List.all_cons] at ih ⊢
    rw [ih, Bool.eq_iff_iff, Bool.and_eq_true, decide_eq_true_eq, decide_eq_true_eq, decide_eq_true_eq]
    constructor
    · rintro ⟨h1, h2⟩
      refine List.pairwise_cons.mpr ⟨fun z hz => ?_, h2⟩
      rcases List.mem_cons.mp hz with rfl | hz
      · exact h1
      · have := (List.pairwise_cons.mp h2).1 z hz; omega
    · intro h
      exact ⟨(List.pairwise_cons.mp h).1 y List.mem_cons_self, (List.pairwise_cons.mp h).2⟩
theorem getD_get {l : List Int} {i : Nat} (h : i < l.length) : l.getD i 0 = l[i] := by simp [h]
theorem chain_idx (xs : List Int) : ((irange 1 xs.length).filter fun k => decide (xs.getD k.toNat 0 ≤ xs.getD (k - 1).toNat 0)) = [] ↔ xs.Pairwise (· < ·) := by
  rw [List.filter_eq_nil_iff]
  constructor
  · intro h
    rw [List.pairwise_iff_getElem]
    intro i j hi hj hij
    have step : ∀ m, i + m + 1 < xs.length → xs.getD i 0 < xs.getD (i + m + 1) 0 := by
      intro m
      induction m with
      | zero =>
        intro hm
        have := h ((i + 1 : Nat) : Int) (mem_irange.mpr ⟨by omega, by omega⟩)
        rw [decide_eq_true_eq, show (((i + 1 : Nat) : Int)).toNat = i + 1 by omega, show (((i + 1 : Nat) : Int) - 1).toNat = i by omega] at this
        simpa using this
      | succ m ih =>
        intro hm
        have h1 := ih (by omega)
        have := h ((i + m + 2 : Nat) : Int) (mem_irange.mpr ⟨by omega, by omega⟩)
        rw [decide_eq_true_eq, show (((i + m + 2 : Nat) : Int)).toNat = i + m + 2 by omega, show (((i + m + 2 : Nat) : Int) - 1).toNat = i + m + 1 by omega] at this
        show _ < xs.getD (i + m + 2) 0
        omega
    have := step (j - i - 1) (by omega)
    rw [show i + (j - i - 1) + 1 = j by omega] at this
    simpa [hi, hj] using this
  · intro h k hk
    rw [mem_irange] at hk
    rw [List.pairwise_iff_getElem] at h
    have := h (k - 1).toNat k.toNat (by omega) (by omega) (by omega)
    rw [decide_eq_true_eq, getD_get (show k.toNat < xs.length by omega), getD_get (show (k - 1).toNat < xs.length by omega)]
    omega
def inR (n : Int) : PyData → Bool
  | .int i => decide (0 ≤ i) && decide (i < n)
  | _ => false
def risB (n : Int) (xs : List Int) : Bool := (xs.all fun x => decide (0 ≤ x) && decide (x < n)) && decide (xs.Pairwise (· < ·))
theorem risB_iff {n : Int} {xs : List Int} : risB n xs = true ↔ Lot n xs := by
  unfold risB Lot
  rw [Bool.and_eq_true, decide_eq_true_eq, List.all_eq_true]
  constructor
  · rintro ⟨h1, h2⟩
    exact ⟨h2, fun x hx => by have := h1 x hx; simpa using this⟩
  · rintro ⟨h1, h2⟩
    exact ⟨fun x hx => by have := h2 x hx; simpa using this, h1⟩
def lotD (n : Int) : PyData → Option (List Int)
  | .tuple ds => if ds.all isWN then (ds.mapM asInt).filter (risB n) else none
  | _ => none
theorem lotD_some {n : Int} {d : PyData} {xs : List Int} (h : lotD n d = some xs) : d = eT eInt xs ∧ Lot n xs := by
  unfold lotD at h
  split at h
  · split at h
    · rename_i ds hw
      obtain ⟨ys, e1, e2⟩ := wn_ints hw
      rw [e1, Option.filter_eq_some_iff] at h
      obtain ⟨h1, h2⟩ := h
      cases h1
      exact ⟨by rw [e2]; rfl, risB_iff.mp h2⟩
    · cases h
  · cases h
theorem all_inR (n : Int) : ∀ xs : List Int, (xs.map eInt).all (inR n) = xs.all fun x => decide (0 ≤ x) && decide (x < n)
  | [] => rfl
  | x :: xs => by rw [List.map_cons, List.all_cons, all_inR n xs]; rfl
theorem inR_wn {n : Int} {ds : List PyData} (h : ds.all (inR n) = true) : ds.all isWN = true := by
  rw [List.all_eq_true] at h ⊢
  intro d hd
  have := h d hd
  cases d <;> first | rfl | cases this
theorem zip_map : ∀ (xs ys : List Int), zipL (xs.map eInt) (ys.map eInt) = (xs.zip ys).map fun p => (eInt p.1, eInt p.2, ())
  | [], ys => by cases ys <;> rfl
  | x :: xs, [] => rfl
  | x :: xs, y :: ys => by
    have ih := zip_map xs ys
    unfold zipL at ih ⊢
    rw [List.map_cons, List.map_cons, List.zipWith_cons_cons, ih, List.zip_cons_cons, List.map_cons]
theorem sz_at {s : List Int} {i : Int} (h0 : 0 ≤ i) (h : i < s.length) : atI s i = some (s.getD i.toNat 0) := by
  obtain ⟨x, e1, e2⟩ := atI_ok h0 h
  rw [e1, List.getD_eq_getElem?_getD, e2]; rfl
theorem eqZ_t {v : PyData} (hp : pl0 v = true) (hd : v.depth ≤ 60) (t : Str) : eqZ v (.tuple [.str t]) = some (PyData.eqv v (.tuple [.str t])) := by
  unfold eqZ
  refine if_pos ⟨?_, hd⟩
  unfold cmB
  rw [Bool.or_eq_true]
  left
  rw [Bool.and_eq_true]
  exact ⟨hp, rfl⟩
theorem eqv_1 (s t : Str) : PyData.eqv (.tuple [.str s]) (.tuple [.str t]) = decide (s = t) := by
  simp [PyData.eqv, PyData.eqvAll]
  exact Bool.beq_eq_decide_eq s t
theorem eqv_2 (x y : PyData) (r : List PyData) (t : Str) : PyData.eqv (.tuple (x :: y :: r)) (.tuple [.str t]) = false := by simp [PyData.eqv, PyData.eqvAll]
theorem eqZ_int (i j : Int) : eqZ (.int i) (.int j) = some (decide (i = j)) := by
  unfold eqZ
  rw [if_pos ⟨rfl, by simp [PyData.depth]⟩]
  simp [PyData.eqv]
  exact Bool.beq_eq_decide_eq i j
theorem plain_ints (l : List Int) : (eT eInt l).plain = true := (Dc.tup (n := 0) Dc.int).plain l
theorem asInt_i (i : Int) : asInt (.int i) = some i := rfl
theorem filt_ints (l : List Int) (q : Int → Bool) : eqZ (eL eD ((l.filter q).map eInt)) (eL eD []) = some (!(l.any q)) := by
  have hp : pl0s ((l.filter q).map eInt) = true := pl0_plain (eT eInt (l.filter q)) (plain_ints _)
  have hd : PyData.depth (eT eInt (l.filter q)) ≤ 1 := (Dc.tup (n := 0) Dc.int).depth _
  rw [eqZ_nil hp (by have : PyData.depthAll ((l.filter q).map eInt) + 1 ≤ 1 := by simpa [eT, PyData.depth, Nat.add_comm] using hd
                     omega)]
  congr 1
  rw [List.isEmpty_map]
  induction l with
  | nil => rfl
  | cons a l ih =>
    cases h : q a with
    | true => rw [List.filter_cons_of_pos h, List.any_cons, h]; rfl
    | false => rw [List.filter_cons_of_neg (by rw [h]; simp), List.any_cons, h, Bool.false_or]; exact ih (pl0_plain (eT eInt (l.filter q)) (plain_ints _)) ((Dc.tup (n := 0) Dc.int).depth _)
theorem ix_ints (l : List Int) {k : Int} (h0 : 0 ≤ k) (h : k < l.length) : atI (l.map eInt) k = some (eInt (l.getD k.toNat 0)) := by
  obtain ⟨x, e1, e2⟩ := atI_ok (xs := l.map eInt) h0 (by rw [List.length_map]; exact h)
  rw [e1]
  rw [List.getElem?_map] at e2
  obtain ⟨y, hy, rfl⟩ := Option.map_eq_some_iff.mp e2
  rw [List.getD_eq_getElem?_getD, hy]; rfl
def RowB (m : Nat) (xs : List Int) : Prop := xs.length ≤ m ∧ ∀ x ∈ xs, 0 ≤ x ∧ x ≤ 10
theorem sstr {f : Bool} {s : Str} (h : s.cps.size ≤ 50) (h2 : (s.cps.toList.all fun c => decide (c < 16 ^ 8)) = true) : Sg f 7 100 (.str s) := (Sg.str h h2).mono (by decide) (by decide)
theorem s_int {f : Bool} {i : Int} (h : i.natAbs < 10 ^ 30) : Sg f 7 100 (.int i) := (Sg.int h).mono (by decide) (Nat.le_refl _)
theorem s_row {f : Bool} {xs : List Int} (h : RowB 10 xs) : Sg f 7 1010 (eT eInt xs) := (Sg.ints 10 h.1 fun x hx => by have := h.2 x hx; omega).mono (by decide) (by decide)
theorem s_rowL {xs : List Int} (h : RowB 10 xs) : Sg false 7 1010 (eL eInt xs) := by
  have k := Sgs.all (f := false) (dp := 0) (w := 100) (ds := xs.map eInt) fun d hd => by
    obtain ⟨i, hi, rfl⟩ := List.mem_map.mp hd
    exact Sg.int (by have := h.2 i hi; omega)
  rw [List.length_map] at k
  exact (Sg.lst k).mono (by decide) (by have := h.1; omega)
theorem Sg.exact {f : Bool} {dp w : Nat} {d : PyData} (h : Sg f dp w d) : Sg f dp d.weight d := ⟨h.show_, h.dic, h.dep, h.leaf, Nat.le_refl _⟩
theorem Sgs.append {f : Bool} {dp w2 : Nat} {ys : List PyData} (k : Sgs f dp w2 ys) : ∀ {xs : List PyData} {w1 : Nat}, Sgs f dp w1 xs → Sgs f dp (w1 + w2) (xs ++ ys)
  | [], w1, _ => k.mono (Nat.le_refl _) (by omega)
  | x :: xs, w1, h => by
    have hx := (h.mem x List.mem_cons_self).exact
    have hxs : Sgs f dp (PyData.weightAll xs) xs := by
      obtain ⟨b1, b2, b3, b4, b5⟩ := h
      simp only [PyData.showableAll, PyData.depthAll, PyData.leavesShortAll, Bool.and_eq_true] at b1 b3 b4
      refine ⟨b1.2, ?_, by omega, b4.2, Nat.le_refl _⟩
      cases f with
      | true => have : noLst x = true ∧ noLsts xs = true := by simpa [noLsts] using b2
                simpa using this.2
      | false => have : x.hasDict = false ∧ PyData.hasDictAll xs = false := by simpa [PyData.hasDictAll] using b2
                 simpa using this.2
    have hw := h.wgt
    simp only [PyData.weightAll] at hw
    exact (Sgs.cons hx (Pz.Sgs.append k hxs)).mono (Nat.le_refl _) (by omega)
theorem sgs_ints {f : Bool} {xs : List Int} (h : RowB 10 xs) : Sgs f 6 1010 (xs.map eInt) := by
  have k := Sgs.all (f := f) (dp := 0) (w := 100) (ds := xs.map eInt) fun d hd => by
    obtain ⟨i, hi, rfl⟩ := List.mem_map.mp hd
    exact Sg.int (by have := h.2 i hi; omega)
  rw [List.length_map] at k
  exact k.mono (by decide) (by have := h.1; omega)
theorem rowb_sub {xs ys : List Int} (h : RowB 10 xs) (hl : ys.length ≤ xs.length) (hs : ∀ y ∈ ys, y ∈ xs) : RowB 10 ys := ⟨by have := h.1; omega, fun y hy => h.2 y (hs y hy)⟩
/-- the values that are judged; S: the strings that may stand first in a tuple -/
structure GvS (S : List Str) (v : PyData) : Prop where
  sg : ∃ f, Sg f 8 20000 v
  hd : HdS S v
structure HeadT (T : List Str) (x : PyData) (z : Str) : Prop where
  rep : reprO (.tuple [x]) = some z
  iff : ∀ t ∈ T, (z = (PyData.tuple [.str t]).shown ↔ x = .str t)
theorem GvS.head {S T : List Str} {v : PyData} (hST : okS S T = true) (h : GvS S v) : ∀ x r, v = .tuple (x :: r) → ∃ z, HeadT T x z := fun x r e => by
  subst e
  obtain ⟨f, hf⟩ := h.sg
  obtain ⟨z, h1, h2⟩ := head_in (T := T) hST hf h.hd
  exact ⟨z, h1, h2⟩
theorem GvS.lens {S : List Str} {v : PyData} (h : GvS S v) : ∀ ds, v = .tuple ds → ds.length ≤ 20000 ∧ ∀ z ∈ ds, ∀ es, z = .tuple es → es.length ≤ 20000 := fun ds e => by
  subst e
  obtain ⟨f, hf⟩ := h.sg
  refine ⟨hf.parts.len, fun z hz es e2 => ?_⟩
  subst e2
  exact (Sg.parts ((hf.parts.mem _ hz).mono (Nat.le_refl _) (Nat.le_refl _) : Sg f (6 + 1) 20000 (.tuple es))).len
theorem GvS.tup {S : List Str} {f : Bool} {w : Nat} {ds : List PyData} (h : Sgs f 7 w ds) (hw : w ≤ 20000) (hh : ∀ s r, ds = .str s :: r → s ∈ S) : GvS S (.tuple ds) := ⟨⟨f, (Sg.tup h).mono (Nat.le_refl _) hw⟩, fun s r e => by cases e; exact hh s r rfl⟩
theorem GvS.flat {S : List Str} {f : Bool} {v : PyData} (h : Sg f 8 20000 v) (hn : ∀ ds, v ≠ .tuple ds) : GvS S v := ⟨⟨f, h⟩, fun s r e => absurd e (hn _)⟩
theorem GvS.pl {S : List Str} {v : PyData} (h : GvS S v) : pl0 v = true := let ⟨_, hf⟩ := h.sg; hf.pl0
theorem GvS.dp {S : List Str} {v : PyData} (h : GvS S v) : v.depth ≤ 8 := let ⟨_, hf⟩ := h.sg; hf.dep
theorem GvS.rep {S : List Str} {v : PyData} (h : GvS S v) : reprO v = some v.shown := let ⟨_, hf⟩ := h.sg; (hf.mono (by decide) (Nat.le_refl _)).rep
/-- odd things -/
structure OddS (S : List Str) (d : PyData) : Prop where
  sg : ∃ f, Sg f 5 400 d
  hd : HdS S d
  str : ∀ s, d = .str s → s ∈ S
def AllS (S : List Str) (n : Nat) (l : List PyData) : Prop := l.length ≤ n ∧ ∀ v ∈ l, GvS S v
theorem AllS.nil {S : List Str} : AllS S 0 [] := ⟨Nat.le_refl 0, by simp⟩
theorem AllS.cons {S : List Str} {n : Nat} {v : PyData} {l : List PyData} (h : GvS S v) (k : AllS S n l) : AllS S (n + 1) (v :: l) := ⟨by have := k.1; simp; exact this, fun u hu => by
  rcases List.mem_cons.mp hu with rfl | hu
  · exact h
  · exact k.2 u hu⟩
theorem AllS.cat {S : List Str} {a b : Nat} {xs ys : List PyData} (h1 : AllS S a xs) (h2 : AllS S b ys) (hn : a + b ≤ 1000 := by decide) : Sat (optM (catO xs ys)) (AllS S (a + b)) := by
  rw [catO_ok (by have := h1.1; have := h2.1; unfold sizeLine; omega), optM_some]
  refine .pure ⟨by have := h1.1; have := h2.1; rw [List.length_append]; omega, fun v hv => ?_⟩
  rcases List.mem_append.mp hv with hv | hv
  · exact h1.2 v hv
  · exact h2.2 v hv
/-! ### more readings -/
theorem Sat.compSub {α : Type} {c : α → M Bool} : ∀ {xs : List α}, (∀ x ∈ xs, Sat (c x) fun _ => True) → Sat (compM c (fun x => pureM x) xs) fun ys => ys.Sublist xs
  | [], _ => .pure .slnil
  | x :: xs, h => by
    unfold compM
    have ih := Sat.compSub (xs := xs) fun y hy => h y (List.mem_cons_of_mem _ hy)
    refine .bind2 (h x List.mem_cons_self) fun b _ => ?_
    cases b with
    | false => exact ih.mono fun ys hy => hy.cons _
    | true =>
      rw [if_pos rfl, bp]
      exact .bind2 ih fun ys hys => .pure (hys.cons₂ _)
theorem enum_eq {α : Type} (d : α) (xs : List α) : enumL xs = (irange 0 xs.length).map fun i => (i, xs.getD i.toNat d, ()) := by
  apply List.ext_getElem?
  intro i
  rw [enumL_get, List.getElem?_map]
  unfold irange
  rw [List.getElem?_map]
  by_cases h : i < xs.length
  · rw [List.getElem?_range (by omega)]
    simp [h]
  · rw [List.getElem?_eq_none (by omega), List.getElem?_eq_none (by rw [List.length_range]; omega)]
    rfl
theorem enum_filter_ix {α : Type} (d : α) (f : α → Bool) (xs : List α) : ((enumL xs).filter fun q => f q.2.1).map (·.1) = (irange 0 xs.length).filter fun i => f (xs.getD i.toNat d) := by
  rw [enum_eq d, List.filter_map, List.map_map]
  exact List.map_id' _
theorem at_getD {α : Type} (d : α) {s : List α} {i : Int} (h0 : 0 ≤ i) (h : i < s.length) : atI s i = some (s.getD i.toNat d) := by
  obtain ⟨x, e1, e2⟩ := atI_ok h0 h
  rw [e1, List.getD_eq_getElem?_getD, e2]; rfl
theorem Lot.sub {n : Int} {xs ys : List Int} (h : Lot n ys) (s : xs.Sublist ys) : Lot n xs := ⟨h.1.sublist s, fun x hx => h.2 x (s.subset hx)⟩
theorem lot_irange {n : Int} : Lot n (irange 0 n) := ⟨irange_sorted 0 n, fun x hx => by rw [mem_irange] at hx; exact hx⟩
theorem Lot.nodup {n : Int} {xs : List Int} (h : Lot n xs) : xs.Nodup := h.1.imp fun h => by omega
end Pz

namespace Lw
open PySem PySem.Spec PyProof.Rows L2 Pz
def topS (i : Nat) : Stmt := PySem.Challenge.pw_lotsoflots_k75_ring_papers.main.body.getD i (.Pass ⟨0, 0, 0, 0⟩)
abbrev sSource : Stmt := topS 14
abbrev sPick : Stmt := topS 15
theorem scPick : FnScope ["source", "most", "cells", "others", "lap", "stirred"] ["source", "most"] (defScope sPick) := ⟨rfl, rfl, rfl, by decide +kernel, rfl, by decide +kernel, by decide +kernel⟩
section
variable {P : Program} {w : World} {K : PySem.W.Frag} {mg : Str → Option Value} {base : Heap}
theorem ok_pick {f : Addr} {fd : FuncData} (F : Fun K "_law_pick" "_law_pick" sPick f fd) (mlen : mg "len" = none) (mint : mg "int" = none) :
    FnG P w K mg base 1 f fd ["source", "most"] (SpM (fun p : Int × Unit => [.src, .fz (eInt p.1)]) eInt (fun p => pickM p.1)) := by
  refine g_def F scPick (fun vs H Q E ⟨R, O, a, st, r, st', _, _, _, h, _⟩ => by rw [h.length]; rfl) (fun cdv A above s H vs Q E hG hr h => ?_)
  obtain ⟨R, O, ⟨most, u⟩, st, r, st', hz, hd, ok, hl, e, q⟩ := h
  have hu := hu_of hr
  cases hl with
  | cons h1 h2 =>
  cases h2 with
  | cons h2 h3 =>
  cases h3
  obtain ⟨a, c, rfl, rfl⟩ := h1
  cases (show Rp O H _ (.int most) from h2)
  have nac : a ≠ c := (show SrcAt a c st H from ok).ne
  have done : ∀ z v H', pickM most st = some (z, v) → okR (some (a, c)) v H' → Keep (Zr (some (a, c))) H H' → Q (.int z) H' := fun z v H' e1 o1 k1 => by
    have e2 : some (z, v) = some (r, st') := e1.symm.trans e
    cases e2
    exact q _ H' k1 o1 (.int _)
  refine ⟨_, pss_cons (ps_if (pt_cmpR op_lt (pv 1) pe_int (nomark _)) (pss_one (ps_ret pe_int)) pss_nil)
    (pss_cons (ps_set (i := 2) scPick.nd rfl (.inl rfl) (pe_dget hu (pv 0) pe_str (fun _ _ => rfl)))
    (pss_cons (ps_while PassesOwn.never (PW.pt (pw_and (pt_cmpR op_lt (pe_dget hu (pv 0) pe_str (fun _ _ => rfl)) pe_int (nomark _)) (pw_and1 (pt_cmpR op_gt (pe_callB call_len_seq (by rfl) mlen PySem.boot_len (pa_cons (pv 2) pa_nil)) pe_int (nomark _)))))
      (pss_one (ps_dput hu (pv 0) pe_str (pe_bm0 PySem.F.plainAttrs_list PySem.F.slot_list_pop PySem.F.type_list_pop mt_pop (pv 2)) rfl)))
    (PSs.weak (t' := if 2 ≤ most ∧ most < 1073741824 then tDrawn a c most st H Q else fun _ _ _ => False) (pss_cons (ps_set (i := 3) scPick.nd rfl (.inl rfl) (pe_dget hu (pv 0) pe_str (fun _ _ => rfl)))
    (pss_cons (ps_if (pt_cmpR op_gt (pv 3) pe_int (nomark _)) (pss_cons (ps_dput hu (pv 0) pe_str (pe_op op_fdivN (pv 3) (pv 1)) rfl)
        (pss_one (ps_ret (pe_op op_modN (pe_callTy call_int1 (by rfl) mint (by decide +kernel) (pa_cons (pv 3) pa_nil)) (pv 1))))) pss_nil)
    (pss_cons (ps_dput hu (pv 0) pe_str (pe_op op_add (pe_dget hu (pv 0) pe_str (fun _ _ => rfl)) pe_int) rfl)
    (pss_cons (ps_set (i := 4) scPick.nd rfl (.inl rfl) (pe_dget hu (pv 0) pe_str (fun _ _ => rfl)))
    (pss_cons (ps_set (i := 5) scPick.nd rfl (.inl rfl) (pe_op op_modN (pe_callTy call_int1 (by rfl) mint (by decide +kernel) (pa_cons (pe_op op_add (pe_dget hu (pv 0) pe_str (fun _ _ => rfl)) (pe_op op_mul (pv 4) pe_int)) pa_nil)) pe_int))
    (pss_cons (ps_set (i := 5) scPick.nd rfl (.inl rfl) (pe_op op_modN (pe_callTy call_int1 (by rfl) mint (by decide +kernel) (pa_cons (pe_op op_add (pe_op op_mul (pv 5) (pv 5)) (pe_op op_mul (pv 4) pe_int)) pa_nil)) pe_int))
    (pss_one (ps_ret (pe_op op_modN (pe_callTy call_int1 (by rfl) mint (by decide +kernel) (pa_cons (pe_op op_fdivN (pv 5) pe_int) pa_nil)) (pv 1)))))))))) (fun D σ H' hT => ?tail)))), ?_⟩
  case tail =>
    by_cases hm : 2 ≤ most ∧ most < 1073741824
    · rw [if_pos hm] at hT
      obtain ⟨cs, l, rfl, hS, hC, hdr, kH, back⟩ := hT
      have hp : pickM most st = (if 1 < l then some (l.fmod most, ⟨cs, l.fdiv most, st.mixed, st.turn⟩) else
          some (((((((st.mixed + (st.turn + 1) * 104729).fmod 998244353) * ((st.mixed + (st.turn + 1) * 104729).fmod 998244353) + (st.turn + 1) * 17).fmod 2147483647).fdiv 16).fmod most), ⟨cs, l, st.mixed, st.turn + 1⟩)) := by
        unfold pickM
        rw [if_neg (by omega), if_neg (by omega), hdr]
      have kA : ∀ (H1 : Hp) (o : HO), Keep (Zr (some (a, c))) H H1 → Keep (Zr (some (a, c))) H (upd H1 a o) := fun H1 o k b u n e => by rw [upd_ne (fun z => n (.inl z))]; exact k b u n e
      refine ⟨_, rfl, a, .int l, rfl, DGet.k (k := .inr "left") hS, ?_⟩
      refine ⟨_, rfl, _, _, rfl, rfl, _, rfl, ?_⟩
      by_cases h1 : 1 < l
      · rw [decide_eq_true h1]
        rw [if_pos h1] at hp
        refine iteT ⟨_, rfl, _, rfl, _, _, rfl, rfl, ⟨by omega, by omega⟩, _, rfl, a, _, rfl, DPut.k (k := .inr "left") hS (srcKv_few _ _ _ _), ?_⟩
        refine ⟨_, rfl, .inl ⟨_, rfl, _, rfl, _, _, rfl, rfl, by omega, back _ _ (done _ _ _ hp ?_ (kA _ _ kH))⟩⟩
        show SrcAt a c _ _
        exact ⟨by rw [upd_same]; rfl, by rw [upd_ne nac.symm]; exact hC, nac⟩
      · rw [decide_eq_false h1]
        rw [if_neg h1] at hp
        refine iteF ⟨_, rfl, a, _, rfl, DGet.k (k := .inr "turn") hS, _, _, rfl, rfl, _, rfl, a, _, rfl, DPut.k (k := .inr "turn") hS (srcKv_few _ _ _ _), ?_⟩
        have hS2 : (upd H' a (.dK (putK (srcKv c l st.mixed st.turn) (.inr "turn") (.int (st.turn + 1))))) a = some (.dK (srcKv c l st.mixed (st.turn + 1))) := by rw [upd_same]; rfl
        refine ⟨_, rfl, a, _, rfl, DGet.k (k := .inr "turn") hS2, ?_⟩
        refine ⟨_, rfl, a, _, rfl, DGet.k (k := .inr "mixed") hS2, _, rfl, _, _, rfl, rfl, .inr ⟨by decide, by decide⟩, _, _, rfl, rfl, .inl ⟨_, rfl, _, _, rfl, rfl, (by decide : (998244353 : Int) ≠ 0), ?_⟩⟩
        have b1 := Int.fmod_nonneg_of_pos (st.mixed + (st.turn + 1) * 104729) (b := 998244353) (by decide)
        have b2 := Int.fmod_lt_of_pos (st.mixed + (st.turn + 1) * 104729) (b := 998244353) (by decide)
        refine ⟨_, rfl, _, rfl, _, _, rfl, rfl, .inl ⟨by omega, by omega⟩, _, rfl, _, _, rfl, rfl, .inr ⟨by decide, by decide⟩, _, _, rfl, rfl, .inl ⟨_, rfl, _, _, rfl, rfl, (by decide : (2147483647 : Int) ≠ 0), ?_⟩⟩
        refine ⟨_, rfl, _, _, rfl, rfl, ⟨by decide, by decide⟩, .inl ⟨_, rfl, _, rfl, _, _, rfl, rfl, by omega, back _ _ (done _ _ _ hp ?_ (kA _ _ kH))⟩⟩
        show SrcAt a c _ _
        exact ⟨hS2, by rw [upd_ne nac.symm]; exact hC, nac⟩
    · rw [if_neg hm] at hT
      exact hT.elim
  have S0 : SrcAt a c st H := ok
  -- if most < 2
  refine ⟨_, rfl, _, _, rfl, rfl, _, rfl, ?_⟩
  by_cases h2 : most < 2
  · rw [decide_eq_true h2]
    exact iteT (done 0 st H (by unfold pickM; rw [if_pos h2]) ok (Keep.refl H))
  have hm : 2 ≤ most ∧ most < 1073741824 := by
    refine ⟨by omega, ?_⟩
    have e' : pickM most st = some (r, st') := e
    unfold pickM at e'
    rw [if_neg h2] at e'
    by_cases h3 : 1073741824 ≤ most
    · rw [if_pos h3] at e'; cases e'
    · omega
  rw [decide_eq_false h2]
  refine iteF ?_
  refine ⟨_, rfl, a, .ref c, rfl, DGet.k (k := .inr "cells") S0.dic, ?_⟩
  -- the loop
  have kA : ∀ (H1 : Hp) (o : HO), Keep (Zr (some (a, c))) H H1 → Keep (Zr (some (a, c))) H (upd H1 a o) := fun H1 o k b u n e => by rw [upd_ne (fun z => n (.inl z))]; exact k b u n e
  have kC : ∀ (H1 : Hp) (o : HO), Keep (Zr (some (a, c))) H H1 → Keep (Zr (some (a, c))) H (upd H1 c o) := fun H1 o k b u n e => by rw [upd_ne (fun z => n (.inr z))]; exact k b u n e
  refine ⟨fun m σ' H' => ∃ cs l, m = cs.length ∧ σ' = [some (.ref a), some (.int most), some (.ref c), none, none, none] ∧ H' a = some (.dK (srcKv c l st.mixed st.turn)) ∧ H' c = some (.lst (cs.map V.int)) ∧ drawC cs.length cs l = drawC st.cells.length st.cells st.left ∧ Keep (Zr (some (a, c))) H H',
    ⟨_, st.cells, st.left, rfl, rfl, S0.dic, S0.cel, rfl, Keep.refl H⟩, ?_⟩
  rintro m σ' H' ⟨cs, l, rfl, rfl, hS, hC, hdr, kH⟩
  refine ⟨_, rfl, a, .int l, rfl, DGet.k (k := .inr "left") hS, _, _, rfl, rfl, _, rfl, ?_⟩
  by_cases hl : l < 2
  · rw [decide_eq_true hl]
    refine iteT ⟨_, rfl, c, _, rfl, .inl (SqL.of hC), _, _, rfl, rfl, _, rfl, ?_⟩
    rcases List.eq_nil_or_concat cs with rfl | ⟨ini, y, rfl⟩
    · refine iteF ?_
      rw [if_pos hm]
      exact ⟨[], l, rfl, hS, hC, by rw [← hdr]; exact drawC_nil _ _, kH, fun _ _ q => q⟩
    · rw [List.concat_eq_append] at *
      rw [show decide ((0 : Int) < (((ini ++ [y]).map V.int).length : Int)) = true from decide_eq_true (by simp)]
      refine iteT ⟨fun σ2 H2 => σ2 = [some (.ref a), some (.int most), some (.ref c), none, none, none] ∧ H2 a = some (.dK (srcKv c y st.mixed st.turn)) ∧ H2 c = some (.lst (ini.map V.int)) ∧ drawC ini.length ini y = drawC st.cells.length st.cells st.left ∧ Keep (Zr (some (a, c))) H H2, ?_, ?_⟩
      · rintro σ2 H2 ⟨rfl, g1, g2, g3, g4⟩
        exact ⟨ini.length, by simp, ini, y, rfl, rfl, g1, g2, g3, g4⟩
      · refine ⟨_, rfl, tyL hC, c, _, .int y, rfl, rfl, hC, by simp, _, rfl, a, _, rfl, DPut.k (k := .inr "left") (by rw [upd_ne nac]; exact hS) (srcKv_few _ _ _ _), rfl, ?_, ?_, ?_, ?_⟩
        · rw [upd_same]; rfl
        · rw [upd_ne nac.symm, upd_same]; simp
        · rw [← hdr, drawC_snoc _ _ _ hl]
        · exact kA _ _ (kC _ _ kH)
  · rw [decide_eq_false hl]
    refine iteF (iteF ?_)
    rw [if_pos hm]
    exact ⟨cs, l, rfl, hS, hC, by rw [← hdr]; exact drawC_stop _ _ _ hl, kH, fun _ _ q => q⟩
end
end Lw

namespace Lw
open PySem PySem.Spec PyProof.Rows L2 Pz
theorem scSource : FnScope ["script", "stirred", "cell", "cells"] ["script"] (defScope sSource) := ⟨rfl, rfl, rfl, by decide +kernel, rfl, by decide +kernel, by decide +kernel⟩
section
variable {P : Program} {w : World} {K : PySem.W.Frag} {mg : Str → Option Value} {base : Heap}
theorem ok_source {f : Addr} {fd : FuncData} (F : Fun K "_law_open_cells" "_law_open_cells" sSource f fd) (mabs : mg "abs" = none) (mint : mg "int" = none) :
    FnG P w K mg base 1 f fd ["script"] (spSource K) := by
  refine g_def F scSource (fun vs H Q E ⟨a, ns, e, _⟩ => by rw [e]; rfl) (fun cdv A above s H vs Q E hG hr h => ?_)
  obtain ⟨a, ns, rfl, hS, hlen, q⟩ := h
  refine ⟨_, pss_cons (ps_set (i := 1) scSource.nd rfl (.inl rfl) pe_int)
    (pss_cons (ps_for PassesOwn.never rfl (pi_list (pv 0)) (pg_name (i := 2) scSource.nd rfl (.inl rfl)) (pss_one (ps_set (i := 1) scSource.nd rfl (.inl rfl)
      (pe_op op_modN (pe_callTy call_int1 (by rfl) mint (by decide +kernel) (pa_cons (pe_op op_add (pe_op op_add (pe_op op_mul (pv 1) pe_int) (pe_op op_mul (pv 2) pe_int)) pe_int) pa_nil)) pe_int))))
    (pss_cons (ps_setLc (i := 3) (own := [("cell", 2)]) (g := gName 2) (tt := tYes) rfl scSource.nd rfl rfl (sw_true rfl rfl rfl (by decide +kernel)) (pi_list (pv 0)) (blkOk_by (N := ["script", "stirred", "cell", "cells"]) (sc := defScope sSource) (by decide +kernel)) (fun _ _ _ _ _ => pg_name (i := 2) scSource.nd rfl (Or.inl rfl)) (fun _ _ _ _ _ => pts_nil)
      (fun _ _ _ _ _ => pe_callB call_abs (by rfl) mabs (by decide +kernel) (pa_cons (pv 2) pa_nil)))
    (pss_one (ps_ret (pe_disp (pps_cons pe_str (pe_revL (pv 3)) (pps_cons pe_str pe_int (pps_cons pe_str (pv 1) (pps_cons pe_str pe_int pps_nil)))) (by rfl) (by rfl) (fun z => by cases z) (by decide)))))), ?_⟩
  refine ⟨_, rfl, a, rfl, ⟨_, hS⟩, for_list (xs := ns.map V.int) (fun i σ' H' => H' = H ∧ ∃ z y, σ' = [some (.ref a), some (.int z), y, none]) ⟨rfl, 11, none, rfl⟩ (fun i σ' H' _ h => by rw [h.1]; exact hS) ?_ ?_⟩
  · rintro i x σ' H' hx ⟨rfl, z, y, rfl⟩
    obtain ⟨n, _, rfl⟩ : ∃ n, ns[i]? = some n ∧ V.int n = x := by simpa using hx
    exact ⟨_, rfl, _, _, rfl, rfl, .inr ⟨by decide, by decide⟩, _, rfl, _, _, rfl, rfl, .inr ⟨by decide, by decide⟩, _, _, rfl, rfl, _, _, rfl, rfl, .inl ⟨_, rfl, _, _, rfl, rfl, (by decide : (2147483629 : Int) ≠ 0), rfl, _, _, rfl⟩⟩
  · rintro σ' H' ⟨rfl, z, y, rfl⟩
    refine ⟨_, rfl, a, rfl, ⟨_, hS⟩, fun D hD => lc_list (K := K) (a := a) (xs := ns.map V.int) (fun i H2 => Same H' H2 ∧ ∃ acc : List Int, H2 D = some (.lst (acc.map V.int)) ∧ acc.length = i) ⟨same_new hD, [], upd_same, rfl⟩ (fun i H2 _ h => h.1.seq hS) ?_ ?_⟩
    · rintro i x H2 hx ⟨sm, acc, hacc, rfl⟩
      obtain ⟨n, hn, rfl⟩ : ∃ n, ns[acc.length]? = some n ∧ V.int n = x := by simpa using hx
      have hi := (List.getElem?_eq_some_iff.mp hn).1
      refine ⟨rfl, ?_⟩
      show tYes _ H2 _
      unfold tYes
      refine iteT ?_
      refine ⟨_, rfl, n, rfl, _, hacc, by rw [List.length_map]; exact Nat.lt_of_lt_of_le hi (Nat.le_trans hlen (by decide)), fun b o e => ?_, acc ++ [if n < 0 then -n else n], ?_, by simp⟩
      · rw [upd_ne (ne_of_none e hD)]; exact sm b o e
      · rw [upd_same]; simp
    · rintro H2 ⟨sm, acc, hacc, _⟩
      intro p np
      have npD : D ≠ p := ne_of_none hacc np
      refine ⟨_, rfl, D, _, rfl, .inl (.inl (by rw [upd_ne npD]; exact hacc)), fun c nc => ?_⟩
      have ncp : c ≠ p := fun z => by rw [z, upd_same] at nc; cases nc
      have ncD : c ≠ D := fun z => by rw [z, upd_ne npD, hacc] at nc; cases nc
      have hc0 : H2 c = none := by rw [upd_ne ncp] at nc; exact nc
      refine ⟨.int z, rfl, by rw [upd_ne ncp.symm, upd_same], srcKv c 1 z 0, rfl, (by show 4 ≤ 15; decide), ?_⟩
      have back : ∀ (x : Addr), H2 x = none → H' x = none := fun x n => by
        cases e : H' x with
        | none => rfl
        | some o => rw [sm x o e] at n; cases n
      refine q p c ⟨acc.reverse, 1, z, 0⟩ _ (back p np) (back c hc0) ⟨by rw [upd_same]; rfl, by rw [upd_ne ncp, upd_same, List.map_reverse], ncp.symm⟩ fun b o e => ?_
      have e2 := sm b o e
      rw [upd_ne (ne_of_none e2 np), upd_ne (ne_of_none e2 hc0), upd_ne (ne_of_none e2 np)]
      exact e2
end
end Lw



namespace Lw
open PySem PySem.Spec PyProof.Rows L2 Pz
abbrev m__law_pick := pickM
section
variable {P : Program} {w : World} {K : PySem.W.Frag} {mg : Str → Option Value} {base : Heap}

abbrev s_is_web_number : Stmt := topS 1
def N_is_web_number : List Str := ["value"]
theorem sc_is_web_number : FnScope N_is_web_number ["value"] (defScope s_is_web_number) := ⟨rfl, rfl, rfl, by decide +kernel, rfl, by decide +kernel, by decide +kernel⟩
def m_is_web_number (v_value : PyData) : M Bool := (Pz.bindM (Pz.bindM (pureM v_value) fun (x1 : PyData) => pureM (isTy "int" (eD x1))) fun (x8 : Bool) => if x8 then (Pz.bindM (Pz.bindM (Pz.bindM (pureM v_value) fun (x2 : PyData) => pureM (isTy "bool" (eD x2))) fun (x3 : Bool) => pureM (!x3)) fun (x7 : Bool) => if x7 then (Pz.bindM (Pz.bindM (pureM v_value) fun (x4 : PyData) => optM (asInt x4)) fun (x5 : Int) => (Pz.bindM (pureM (0 : Int)) fun (x6 : Int) => pureM (decide (x6 ≤ x5)))) else pureM false) else pureM false)
theorem ok_is_web_number {f : Addr} {fd : FuncData} (F : Fun K "is_web_number" "is_web_number" s_is_web_number f fd) (B : Bl mg) :
    FnG P w K mg base 1 f fd ["value"] (SpM (fun p : PyData × Unit => [.fz (eD p.1)]) eBool (fun p : PyData × Unit => m_is_web_number p.1)) := by
  refine g_ok F sc_is_web_number (fun p : PyData × Unit => [.fz (eD p.1)]) eBool (fun p : PyData × Unit => m_is_web_number p.1) (fun p => [.fz (eD p.1)]) (fun _ => rfl) (fun _ => rfl) ?_
  intro cdv A above s H E R p hG hr
  obtain ⟨v_value, uu⟩ := p
  have sc := sc_is_web_number
  exact (s_ret0 (e_and (e_isi (ea := eD) (fun K d => kit_int d) B.b_isinstance B.b_int bt_int (e_var 0 eD v_value)) (e_and (e_not (e_isi (ea := eD) (fun K d => kit_bool d) B.b_isinstance B.b_bool bt_bool (e_var 0 eD v_value))) (e_one1 (e_ge (e_dInt (e_var 0 eD v_value)) e_int)))))

abbrev s_shared_points : Stmt := topS 3
def N_shared_points : List Str := ["lines", "r", "s", "x"]
theorem sc_shared_points : FnScope N_shared_points ["lines", "r", "s"] (defScope s_shared_points) := ⟨rfl, rfl, rfl, by decide +kernel, rfl, by decide +kernel, by decide +kernel⟩
def m_shared_points (v_lines : (List (List Int))) (v_r : Int) (v_s : Int) : M (List Int) := (Pz.bindM (Pz.bindM (Pz.bindM (pureM v_lines) fun (x1 : (List (List Int))) => (Pz.bindM (pureM v_r) fun (x2 : Int) => optM (atI x1 x2))) fun (x8 : (List Int)) => compM (fun (y3 : Int) => (Pz.bindM (pureM y3) fun (x6 : Int) => (Pz.bindM (Pz.bindM (pureM v_lines) fun (x4 : (List (List Int))) => (Pz.bindM (pureM v_s) fun (x5 : Int) => optM (atI x4 x5))) fun (x7 : (List Int)) => pureM (decide (x6 ∈ x7))))) (fun (y3 : Int) => (pureM y3)) x8) fun (x9 : (List Int)) => optM (some x9))
theorem ok_shared_points {f : Addr} {fd : FuncData} (F : Fun K "shared_points" "shared_points" s_shared_points f fd) (B : Bl mg) :
    FnG P w K mg base 1 f fd ["lines", "r", "s"] (SpM (fun p : (List (List Int)) × Int × Int × Unit => [.fz ((eT (eT eInt)) p.1), .fz (eInt p.2.1), .fz (eInt p.2.2.1)]) (eT eInt) (fun p : (List (List Int)) × Int × Int × Unit => m_shared_points p.1 p.2.1 p.2.2.1)) := by
  refine g_ok F sc_shared_points (fun p : (List (List Int)) × Int × Int × Unit => [.fz ((eT (eT eInt)) p.1), .fz (eInt p.2.1), .fz (eInt p.2.2.1)]) (eT eInt) (fun p : (List (List Int)) × Int × Int × Unit => m_shared_points p.1 p.2.1 p.2.2.1) (fun p => [.fz ((eT (eT eInt)) p.1), .fz (eInt p.2.1), .fz (eInt p.2.2.1), .un]) (fun _ => rfl) (fun _ => rfl) ?_
  intro cdv A above s H E R p hG hr
  obtain ⟨v_lines, v_r, v_s, uu⟩ := p
  have sc := sc_shared_points
  exact (s_ret0 (e_t1 (ea := (eL eInt)) (ec := (eT eInt)) (f := fun x => some x) call_tuple_of v_tupL B.b_tuple bt_tuple (f_e (f_lc (set := (st1 3 eInt)) (is := [3]) [("x", 3)] (fun (y3 : Int) => (Pz.bindM (pureM y3) fun (x6 : Int) => (Pz.bindM (Pz.bindM (pureM v_lines) fun (x4 : (List (List Int))) => (Pz.bindM (pureM v_s) fun (x5 : Int) => optM (atI x4 x5))) fun (x7 : (List Int)) => pureM (decide (x6 ∈ x7))))) (fun (y3 : Int) => (pureM y3)) rfl sc.nd (i_tup (e_ixT (e_var 0 (eT (eT eInt)) v_lines) (e_var 1 eInt v_r))) (blkOk_by (N := N_shared_points) (sc := (defScope s_shared_points)) (by decide +kernel)) (fun _ _ _ _ _ => (g1 3 eInt sc.nd)) (fun _ _ _ _ _ (y3 : Int) => (c_one (t_inT (n := 0) hr Dc.int (e_var 3 eInt y3) (e_ixT (e_var 0 (eT (eT eInt)) v_lines) (e_var 2 eInt v_s))))) (fun _ _ _ _ _ (y3 : Int) => (e_var 3 eInt y3)) noow1 sm1 (fun _ h => h) (noOw rfl)))))

abbrev s_some_lots : Stmt := topS 4
def N_some_lots : List Str := ["m", "s", "found", "lap", "late", "lot", "least", "x"]
theorem sc_some_lots : FnScope N_some_lots ["m", "s"] (defScope s_some_lots) := ⟨rfl, rfl, rfl, by decide +kernel, rfl, by decide +kernel, by decide +kernel⟩
def m_some_lots (v_m : Int) (v_s : Int) : M (List (List Int)) := (Pz.bindM (smallM (Pz.bindM (smallM (pureM ([] : List Int))) fun (x2 : (List Int)) => (Pz.bindM (pureM ([] : List (List Int))) fun (x3 : (List (List Int))) => pureM (x2 :: x3)))) fun (r1 : (List (List Int))) => (Pz.bindM (Pz.bindM (Pz.bindM (pureM v_s) fun (x4 : Int) => rangeM 0 x4) fun (x40 : (List Int)) => forM' (fun (b6 : ((List (List Int)))) (y5 : Int) => (Pz.bindM (smallM (pureM ([] : List (List Int)))) fun (r7 : (List (List Int))) => (Pz.bindM (Pz.bindM (pureM b6) fun (x36 : (List (List Int))) => forM' (fun (b9 : ((List (List Int)))) (y8 : (List Int)) => (Pz.bindM (Pz.bindM (Pz.bindM (pureM y8) fun (x11 : (List Int)) => (Pz.bindM (smallM (pureM ([] : List Int))) fun (x12 : (List Int)) => pureM (!decide (x11 = x12)))) fun (x23 : Bool) => if x23 then (Pz.bindM (Pz.bindM (pureM y8) fun (x19 : (List Int)) => (Pz.bindM (Pz.bindM (pureM (1 : Int)) fun (x18 : Int) => pureM (-x18)) fun (x20 : Int) => optM (atI x19 x20))) fun (x21 : Int) => (Pz.bindM (pureM (1 : Int)) fun (x22 : Int) => pureM (x21 + x22))) else (pureM (0 : Int))) fun (r10 : Int) => (Pz.bindM (Pz.bindM (pureM b9) fun (x34 : (List (List Int))) => (Pz.bindM (Pz.bindM (Pz.bindM (pureM r10) fun (x25 : Int) => (Pz.bindM (pureM v_m) fun (x26 : Int) => rangeM x25 x26)) fun (x33 : (List Int)) => compM (fun (y27 : Int) => (pureM true)) (fun (y27 : Int) => (Pz.bindM (pureM y8) fun (x31 : (List Int)) => (Pz.bindM (Pz.bindM (Pz.bindM (pureM y27) fun (x28 : Int) => (Pz.bindM (pureM ()) fun (x29 : Unit) => pureM (x28, x29))) fun (x30 : (Int × Unit)) => pureM ((fun p : (Int × Unit) => [p.1]) x30)) fun (x32 : (List Int)) => optM (catO x31 x32)))) x33) fun (x35 : (List (List Int))) => optM (catO x34 x35))) fun (r24 : (List (List Int))) => (pureM r24)))) x36 r7) fun (r37 : ((List (List Int)))) => (Pz.bindM (Pz.bindM (pureM r37) fun (x39 : (List (List Int))) => optM (some x39)) fun (r38 : (List (List Int))) => (pureM r38))))) x40 r1) fun (r41 : ((List (List Int)))) => (pureM r41)))
theorem ok_some_lots {f : Addr} {fd : FuncData} (F : Fun K "some_lots" "some_lots" s_some_lots f fd) (B : Bl mg) :
    FnG P w K mg base 1 f fd ["m", "s"] (SpM (fun p : Int × Int × Unit => [.fz (eInt p.1), .fz (eInt p.2.1)]) (eL (eT eInt)) (fun p : Int × Int × Unit => m_some_lots p.1 p.2.1)) := by
  refine g_ok F sc_some_lots (fun p : Int × Int × Unit => [.fz (eInt p.1), .fz (eInt p.2.1)]) (eL (eT eInt)) (fun p : Int × Int × Unit => m_some_lots p.1 p.2.1) (fun p => [.fz (eInt p.1), .fz (eInt p.2.1), .un, .un, .un, .un, .un, .un]) (fun _ => rfl) (fun _ => rfl) ?_
  intro cdv A above s H E R p hG hr
  obtain ⟨v_m, v_s, uu⟩ := p
  have sc := sc_some_lots
  exact (s_step (Γ1 := fun (r1 : (List (List Int))) => [.fz (eInt v_m), .fz (eInt v_s), .fz ((eL (eT eInt)) r1), .un, .un, .un, .un, .un]) (q_set 2 (f_e (f_list (l_cons (e_tupl l_nil) l_nil))) sc.nd) (fun (r1 : (List (List Int))) => (s_step (Γ1 := (fun (b : ((List (List Int)))) => [.fz (eInt v_m), .fz (eInt v_s), .fz ((eL (eT eInt)) b), .un, .un, .un, .un, .un])) (q_for (set := (st1 3 eInt)) (is := [3]) (fun (b : ((List (List Int)))) => [.fz (eInt v_m), .fz (eInt v_s), .fz ((eL (eT eInt)) b), .un, .un, .un, .un, .un]) r1 (fun (b6 : ((List (List Int)))) (y5 : Int) => (Pz.bindM (smallM (pureM ([] : List (List Int)))) fun (r7 : (List (List Int))) => (Pz.bindM (Pz.bindM (pureM b6) fun (x36 : (List (List Int))) => forM' (fun (b9 : ((List (List Int)))) (y8 : (List Int)) => (Pz.bindM (Pz.bindM (Pz.bindM (pureM y8) fun (x11 : (List Int)) => (Pz.bindM (smallM (pureM ([] : List Int))) fun (x12 : (List Int)) => pureM (!decide (x11 = x12)))) fun (x23 : Bool) => if x23 then (Pz.bindM (Pz.bindM (pureM y8) fun (x19 : (List Int)) => (Pz.bindM (Pz.bindM (pureM (1 : Int)) fun (x18 : Int) => pureM (-x18)) fun (x20 : Int) => optM (atI x19 x20))) fun (x21 : Int) => (Pz.bindM (pureM (1 : Int)) fun (x22 : Int) => pureM (x21 + x22))) else (pureM (0 : Int))) fun (r10 : Int) => (Pz.bindM (Pz.bindM (pureM b9) fun (x34 : (List (List Int))) => (Pz.bindM (Pz.bindM (Pz.bindM (pureM r10) fun (x25 : Int) => (Pz.bindM (pureM v_m) fun (x26 : Int) => rangeM x25 x26)) fun (x33 : (List Int)) => compM (fun (y27 : Int) => (pureM true)) (fun (y27 : Int) => (Pz.bindM (pureM y8) fun (x31 : (List Int)) => (Pz.bindM (Pz.bindM (Pz.bindM (pureM y27) fun (x28 : Int) => (Pz.bindM (pureM ()) fun (x29 : Unit) => pureM (x28, x29))) fun (x30 : (Int × Unit)) => pureM ((fun p : (Int × Unit) => [p.1]) x30)) fun (x32 : (List Int)) => optM (catO x31 x32)))) x33) fun (x35 : (List (List Int))) => optM (catO x34 x35))) fun (r24 : (List (List Int))) => (pureM r24)))) x36 r7) fun (r37 : ((List (List Int)))) => (Pz.bindM (Pz.bindM (pureM r37) fun (x39 : (List (List Int))) => optM (some x39)) fun (r38 : (List (List Int))) => (pureM r38))))) PassesOwn.never rfl (i_range1 B.b_range (e_var 1 eInt v_s)) (g1 3 eInt sc.nd) noow1 (.eq (.eq (.eq (.un (.un (.un (.un (.un .nil)))))))) (fun (b6 : ((List (List Int)))) (y5 : Int) => (s_step (Γ1 := fun (r7 : (List (List Int))) => [.fz (eInt v_m), .fz (eInt v_s), .fz ((eL (eT eInt)) b6), .fz (eInt y5), .fz ((eL (eT eInt)) r7), .un, .un, .un]) (q_set 4 (f_e (f_list l_nil)) sc.nd) (fun (r7 : (List (List Int))) => (s_step (Γ1 := (fun (b : ((List (List Int)))) => [.fz (eInt v_m), .fz (eInt v_s), .fz ((eL (eT eInt)) b6), .fz (eInt y5), .fz ((eL (eT eInt)) b), .un, .un, .un])) (q_for (set := (st1 5 (eT eInt))) (is := [5]) (fun (b : ((List (List Int)))) => [.fz (eInt v_m), .fz (eInt v_s), .fz ((eL (eT eInt)) b6), .fz (eInt y5), .fz ((eL (eT eInt)) b), .un, .un, .un]) r7 (fun (b9 : ((List (List Int)))) (y8 : (List Int)) => (Pz.bindM (Pz.bindM (Pz.bindM (pureM y8) fun (x11 : (List Int)) => (Pz.bindM (smallM (pureM ([] : List Int))) fun (x12 : (List Int)) => pureM (!decide (x11 = x12)))) fun (x23 : Bool) => if x23 then (Pz.bindM (Pz.bindM (pureM y8) fun (x19 : (List Int)) => (Pz.bindM (Pz.bindM (pureM (1 : Int)) fun (x18 : Int) => pureM (-x18)) fun (x20 : Int) => optM (atI x19 x20))) fun (x21 : Int) => (Pz.bindM (pureM (1 : Int)) fun (x22 : Int) => pureM (x21 + x22))) else (pureM (0 : Int))) fun (r10 : Int) => (Pz.bindM (Pz.bindM (pureM b9) fun (x34 : (List (List Int))) => (Pz.bindM (Pz.bindM (Pz.bindM (pureM r10) fun (x25 : Int) => (Pz.bindM (pureM v_m) fun (x26 : Int) => rangeM x25 x26)) fun (x33 : (List Int)) => compM (fun (y27 : Int) => (pureM true)) (fun (y27 : Int) => (Pz.bindM (pureM y8) fun (x31 : (List Int)) => (Pz.bindM (Pz.bindM (Pz.bindM (pureM y27) fun (x28 : Int) => (Pz.bindM (pureM ()) fun (x29 : Unit) => pureM (x28, x29))) fun (x30 : (Int × Unit)) => pureM ((fun p : (Int × Unit) => [p.1]) x30)) fun (x32 : (List Int)) => optM (catO x31 x32)))) x33) fun (x35 : (List (List Int))) => optM (catO x34 x35))) fun (r24 : (List (List Int))) => (pureM r24)))) PassesOwn.never rfl (i_list (e_var 2 (eL (eT eInt)) b6)) (g1 5 (eT eInt) sc.nd) noow1 (.eq (.eq (.eq (.eq (.eq (.un (.un (.un .nil)))))))) (fun (b9 : ((List (List Int)))) (y8 : (List Int)) => (s_step (Γ1 := fun (r10 : Int) => [.fz (eInt v_m), .fz (eInt v_s), .fz ((eL (eT eInt)) b6), .fz (eInt y5), .fz ((eL (eT eInt)) b9), .fz ((eT eInt) y8), .fz (eInt r10), .un]) (q_set 6 (e_if (t_neP (n := 1) hr (Dc.tup Dc.int) (e_var 5 (eT eInt) y8) (e_tupl l_nil)) (e_add (e_ixT (e_var 5 (eT eInt) y8) (e_neg e_int)) e_int) e_int) sc.nd) (fun (r10 : Int) => (s_step (Γ1 := fun (r24 : (List (List Int))) => [.fz (eInt v_m), .fz (eInt v_s), .fz ((eL (eT eInt)) b6), .fz (eInt y5), .fz ((eL (eT eInt)) r24), .fz ((eT eInt) y8), .fz (eInt r10), .un]) (q_set 4 (f_e (f_catL (e_var 4 (eL (eT eInt)) b9) (f_e (f_lc (set := (st1 7 eInt)) (is := [7]) [("x", 7)] (fun (y27 : Int) => (pureM true)) (fun (y27 : Int) => (Pz.bindM (pureM y8) fun (x31 : (List Int)) => (Pz.bindM (Pz.bindM (Pz.bindM (pureM y27) fun (x28 : Int) => (Pz.bindM (pureM ()) fun (x29 : Unit) => pureM (x28, x29))) fun (x30 : (Int × Unit)) => pureM ((fun p : (Int × Unit) => [p.1]) x30)) fun (x32 : (List Int)) => optM (catO x31 x32)))) rfl sc.nd (i_range2 B.b_range (e_var 6 eInt r10) (e_var 0 eInt v_m)) (blkOk_by (N := N_some_lots) (sc := (defScope s_some_lots)) (by decide +kernel)) (fun _ _ _ _ _ => (g1 7 eInt sc.nd)) (fun _ _ _ _ _ (y27 : Int) => c_nil) (fun _ _ _ _ _ (y27 : Int) => (e_catT (e_var 5 (eT eInt) y8) (e_enc (eb := (eT eInt)) (fun p : (Int × Unit) => [p.1]) (e_tup (eC eInt eU) (a_cons (e_var 7 eInt y27) a_nil) (hl := fun _ => (by decide : 1 ≤ sizeLine))) (fun _ => rfl)))) noow1 sm1 (fun _ h => h) (noOw rfl))))) sc.nd) (fun (r24 : (List (List Int))) => (s_nilN (Γb := (fun (b : ((List (List Int)))) => [.fz (eInt v_m), .fz (eInt v_s), .fz ((eL (eT eInt)) b6), .fz (eInt y5), .fz ((eL (eT eInt)) b), .un, .un, .un])) r24 (.eq (.eq (.eq (.eq (.eq (.un (.un (.un .nil))))))))))))))) (fun (r37 : ((List (List Int)))) => (s_step (Γ1 := fun (r38 : (List (List Int))) => [.fz (eInt v_m), .fz (eInt v_s), .fz ((eL (eT eInt)) r38), .fz (eInt y5), .fz ((eL (eT eInt)) r37), .un, .un, .un]) (q_set 2 (f_e (f_t1 (ea := (eL (eT eInt))) (ec := (eT eInt)) (f := fun x => some x) call_list_of v_listL B.b_list bt_list (e_var 4 (eL (eT eInt)) r37))) sc.nd) (fun (r38 : (List (List Int))) => (s_nilN (Γb := (fun (b : ((List (List Int)))) => [.fz (eInt v_m), .fz (eInt v_s), .fz ((eL (eT eInt)) b), .un, .un, .un, .un, .un])) r38 (.eq (.eq (.eq (.un (.un (.un (.un (.un .nil))))))))))))))))) (fun (r41 : ((List (List Int)))) => (s_ret0 (e_var 2 (eL (eT eInt)) r41))))))

abbrev s_lines_through : Stmt := topS 5
def N_lines_through : List Str := ["lines", "lot", "r", "line", "x"]
theorem sc_lines_through : FnScope N_lines_through ["lines", "lot"] (defScope s_lines_through) := ⟨rfl, rfl, rfl, by decide +kernel, rfl, by decide +kernel, by decide +kernel⟩
def m_lines_through (v_lines : (List (List Int))) (v_lot : (List Int)) : M (List Int) := (Pz.bindM (Pz.bindM (pureM v_lines) fun (x1 : (List (List Int))) => pureM (enumL x1)) fun (x8 : (List (Int × (List Int) × Unit))) => compM (fun (y2 : (Int × (List Int) × Unit)) => (Pz.bindM (Pz.bindM (pureM v_lot) fun (x6 : (List Int)) => compM (fun (y3 : Int) => (pureM true)) (fun (y3 : Int) => (Pz.bindM (pureM y3) fun (x4 : Int) => (Pz.bindM (pureM y2.2.1) fun (x5 : (List Int)) => pureM (decide (x4 ∈ x5))))) x6) fun (x7 : (List Bool)) => optM (some (x7.all id)))) (fun (y2 : (Int × (List Int) × Unit)) => (pureM y2.1)) x8)
theorem ok_lines_through {f : Addr} {fd : FuncData} (F : Fun K "lines_through" "lines_through" s_lines_through f fd) (B : Bl mg) :
    FnG P w K mg base 1 f fd ["lines", "lot"] (SpM (fun p : (List (List Int)) × (List Int) × Unit => [.fz ((eT (eT eInt)) p.1), .fz ((eT eInt) p.2.1)]) (eL eInt) (fun p : (List (List Int)) × (List Int) × Unit => m_lines_through p.1 p.2.1)) := by
  refine g_ok F sc_lines_through (fun p : (List (List Int)) × (List Int) × Unit => [.fz ((eT (eT eInt)) p.1), .fz ((eT eInt) p.2.1)]) (eL eInt) (fun p : (List (List Int)) × (List Int) × Unit => m_lines_through p.1 p.2.1) (fun p => [.fz ((eT (eT eInt)) p.1), .fz ((eT eInt) p.2.1), .un, .un, .un]) (fun _ => rfl) (fun _ => rfl) ?_
  intro cdv A above s H E R p hG hr
  obtain ⟨v_lines, v_lot, uu⟩ := p
  have sc := sc_lines_through
  exact (s_ret0 (f_e (f_lc (set := (st2 2 eInt 3 (eT eInt))) (is := [2, 3]) [("r", 2), ("line", 3)] (fun (y2 : (Int × (List Int) × Unit)) => (Pz.bindM (Pz.bindM (pureM v_lot) fun (x6 : (List Int)) => compM (fun (y3 : Int) => (pureM true)) (fun (y3 : Int) => (Pz.bindM (pureM y3) fun (x4 : Int) => (Pz.bindM (pureM y2.2.1) fun (x5 : (List Int)) => pureM (decide (x4 ∈ x5))))) x6) fun (x7 : (List Bool)) => optM (some (x7.all id)))) (fun (y2 : (Int × (List Int) × Unit)) => (pureM y2.1)) rfl sc.nd (i_enumT B.b_enumerate (e_var 0 (eT (eT eInt)) v_lines)) (blkOk_by (N := N_lines_through) (sc := (defScope s_lines_through)) (by decide +kernel)) (fun _ _ _ _ _ => (g2 2 3 eInt (eT eInt) rfl sc.nd)) (fun _ _ _ _ _ (y2 : (Int × (List Int) × Unit)) => (c_one (t_val (e_b1 (ea := (eL eBool)) (ec := eBool) (f := fun x => some (x.all id)) (cr_all rfl) v_all B.b_all bt_all (f_e (f_lc (set := (st1 4 eInt)) (is := [4]) [("x", 4)] (fun (y3 : Int) => (pureM true)) (fun (y3 : Int) => (Pz.bindM (pureM y3) fun (x4 : Int) => (Pz.bindM (pureM y2.2.1) fun (x5 : (List Int)) => pureM (decide (x4 ∈ x5))))) rfl sc.nd (i_tup (e_var 1 (eT eInt) v_lot)) (blkOk_in N_lines_through rfl (by decide +kernel)) (fun _ _ _ _ _ => (g1 4 eInt sc.nd)) (fun _ _ _ _ _ (y3 : Int) => c_nil) (fun _ _ _ _ _ (y3 : Int) => (e_inT (n := 0) hr Dc.int (e_var 4 eInt y3) (e_var 3 (eT eInt) y2.2.1))) noow1 sm1 (fun _ h => h) (noOw rfl))))))) (fun _ _ _ _ _ (y2 : (Int × (List Int) × Unit)) => (e_var 2 eInt y2.1)) noow2 sm2 (fun _ h => h) (noOw rfl))))

abbrev s_first_ring : Stmt := topS 7
def N_first_ring : List Str := ["lines", "r", "s", "shared"]
theorem sc_first_ring : FnScope N_first_ring ["lines"] (defScope s_first_ring) := ⟨rfl, rfl, rfl, by decide +kernel, rfl, by decide +kernel, by decide +kernel⟩
def m_first_ring (v_lines : (List (List Int))) : M (Option (Int × Int × Int × Int × Unit)) := (Pz.bindM (Pz.bindM (Pz.bindM (Pz.bindM (pureM v_lines) fun (x1 : (List (List Int))) => pureM (x1.length : Int)) fun (x2 : Int) => rangeM 0 x2) fun (x36 : (List Int)) => forO (fun (b4 : Unit) (y3 : Int) => (Pz.bindM (Pz.bindM (Pz.bindM (Pz.bindM (pureM y3) fun (x5 : Int) => (Pz.bindM (pureM (1 : Int)) fun (x6 : Int) => pureM (x5 + x6))) fun (x8 : Int) => (Pz.bindM (Pz.bindM (pureM v_lines) fun (x7 : (List (List Int))) => pureM (x7.length : Int)) fun (x9 : Int) => rangeM x8 x9)) fun (x34 : (List Int)) => forO (fun (b11 : Unit) (y10 : Int) => (Pz.bindM (Pz.bindM (pureM v_lines) fun (x13 : (List (List Int))) => (Pz.bindM (pureM y3) fun (x14 : Int) => (Pz.bindM (pureM y10) fun (x15 : Int) => m_shared_points x13 x14 x15))) fun (r12 : (List Int)) => (Pz.bindM (Pz.bindM (Pz.bindM (pureM r12) fun (x16 : (List Int)) => pureM (x16.length : Int)) fun (x17 : Int) => (Pz.bindM (pureM (1 : Int)) fun (x18 : Int) => pureM (decide (x18 < x17)))) fun (x19 : Bool) => if x19 then Pz.bindM (Pz.bindM (Pz.bindM (pureM y3) fun (x30 : Int) => (Pz.bindM (Pz.bindM (pureM y10) fun (x28 : Int) => (Pz.bindM (Pz.bindM (Pz.bindM (pureM r12) fun (x20 : (List Int)) => (Pz.bindM (pureM (0 : Int)) fun (x21 : Int) => optM (atI x20 x21))) fun (x26 : Int) => (Pz.bindM (Pz.bindM (Pz.bindM (pureM r12) fun (x22 : (List Int)) => (Pz.bindM (pureM (1 : Int)) fun (x23 : Int) => optM (atI x22 x23))) fun (x24 : Int) => (Pz.bindM (pureM ()) fun (x25 : Unit) => pureM (x24, x25))) fun (x27 : (Int × Unit)) => pureM (x26, x27))) fun (x29 : (Int × (Int × Unit))) => pureM (x28, x29))) fun (x31 : (Int × (Int × (Int × Unit)))) => pureM (x30, x31))) fun (x32 : (Int × Int × Int × Int × Unit)) => pureM (some x32)) (fun (x33 : (Option (Int × Int × Int × Int × Unit))) => pureM (Out.rt x33)) else (pureM (Out.nx ()))))) x34 ()) fun o => caseO o (fun (r35 : Unit) => (pureM (Out.nx ()))) (fun r => pureM (Out.rt r)))) x36 ()) fun o => caseO o (fun (r37 : Unit) => (Pz.bindM (pureM ()) fun (x38 : Unit) => pureM (none : (Option (Int × Int × Int × Int × Unit))))) pureM)
theorem ok_first_ring {f : Addr} {fd : FuncData} (F : Fun K "first_ring" "first_ring" s_first_ring f fd) (B : Bl mg)
    {f_shared_points : Addr} {d_shared_points : FuncData} (C_shared_points : Cal K mg "shared_points" f_shared_points d_shared_points ["lines", "r", "s"]) (F_shared_points : FnG P w K mg base 1 f_shared_points d_shared_points ["lines", "r", "s"] (SpM (fun p : (List (List Int)) × Int × Int × Unit => [.fz ((eT (eT eInt)) p.1), .fz (eInt p.2.1), .fz (eInt p.2.2.1)]) (eT eInt) (fun p : (List (List Int)) × Int × Int × Unit => m_shared_points p.1 p.2.1 p.2.2.1))) :
    FnG P w K mg base 2 f fd ["lines"] (SpM (fun p : (List (List Int)) × Unit => [.fz ((eT (eT eInt)) p.1)]) (eO (eP (eC eInt (eC eInt (eC eInt (eC eInt eU)))))) (fun p : (List (List Int)) × Unit => m_first_ring p.1)) := by
  refine g_ok F sc_first_ring (fun p : (List (List Int)) × Unit => [.fz ((eT (eT eInt)) p.1)]) (eO (eP (eC eInt (eC eInt (eC eInt (eC eInt eU)))))) (fun p : (List (List Int)) × Unit => m_first_ring p.1) (fun p => [.fz ((eT (eT eInt)) p.1), .un, .un, .un]) (fun _ => rfl) (fun _ => rfl) ?_
  intro cdv A above s H E R p hG hr
  obtain ⟨v_lines, uu⟩ := p
  have sc := sc_first_ring
  exact (s_step1 (er := (eO (eP (eC eInt (eC eInt (eC eInt (eC eInt eU))))))) (Γ1 := (fun (b : Unit) => [.fz ((eT (eT eInt)) v_lines), .un, .un, .un])) (q_forO (er := (eO (eP (eC eInt (eC eInt (eC eInt (eC eInt eU))))))) (set := (st1 1 eInt)) (is := [1]) (fun (b : Unit) => [.fz ((eT (eT eInt)) v_lines), .un, .un, .un]) () (fun (b4 : Unit) (y3 : Int) => (Pz.bindM (Pz.bindM (Pz.bindM (Pz.bindM (pureM y3) fun (x5 : Int) => (Pz.bindM (pureM (1 : Int)) fun (x6 : Int) => pureM (x5 + x6))) fun (x8 : Int) => (Pz.bindM (Pz.bindM (pureM v_lines) fun (x7 : (List (List Int))) => pureM (x7.length : Int)) fun (x9 : Int) => rangeM x8 x9)) fun (x34 : (List Int)) => forO (fun (b11 : Unit) (y10 : Int) => (Pz.bindM (Pz.bindM (pureM v_lines) fun (x13 : (List (List Int))) => (Pz.bindM (pureM y3) fun (x14 : Int) => (Pz.bindM (pureM y10) fun (x15 : Int) => m_shared_points x13 x14 x15))) fun (r12 : (List Int)) => (Pz.bindM (Pz.bindM (Pz.bindM (pureM r12) fun (x16 : (List Int)) => pureM (x16.length : Int)) fun (x17 : Int) => (Pz.bindM (pureM (1 : Int)) fun (x18 : Int) => pureM (decide (x18 < x17)))) fun (x19 : Bool) => if x19 then Pz.bindM (Pz.bindM (Pz.bindM (pureM y3) fun (x30 : Int) => (Pz.bindM (Pz.bindM (pureM y10) fun (x28 : Int) => (Pz.bindM (Pz.bindM (Pz.bindM (pureM r12) fun (x20 : (List Int)) => (Pz.bindM (pureM (0 : Int)) fun (x21 : Int) => optM (atI x20 x21))) fun (x26 : Int) => (Pz.bindM (Pz.bindM (Pz.bindM (pureM r12) fun (x22 : (List Int)) => (Pz.bindM (pureM (1 : Int)) fun (x23 : Int) => optM (atI x22 x23))) fun (x24 : Int) => (Pz.bindM (pureM ()) fun (x25 : Unit) => pureM (x24, x25))) fun (x27 : (Int × Unit)) => pureM (x26, x27))) fun (x29 : (Int × (Int × Unit))) => pureM (x28, x29))) fun (x31 : (Int × (Int × (Int × Unit)))) => pureM (x30, x31))) fun (x32 : (Int × Int × Int × Int × Unit)) => pureM (some x32)) (fun (x33 : (Option (Int × Int × Int × Int × Unit))) => pureM (Out.rt x33)) else (pureM (Out.nx ()))))) x34 ()) fun o => caseO o (fun (r35 : Unit) => (pureM (Out.nx ()))) (fun r => pureM (Out.rt r)))) PassesOwn.never rfl (i_range1 B.b_range (e_lenT B.b_len bt_len (e_var 0 (eT (eT eInt)) v_lines))) (g1 1 eInt sc.nd) noow1 (.eq (.un (.un (.un .nil)))) (fun (b4 : Unit) (y3 : Int) => (s_step2 (er := (eO (eP (eC eInt (eC eInt (eC eInt (eC eInt eU))))))) (Γ1 := (fun (b : Unit) => [.fz ((eT (eT eInt)) v_lines), .fz (eInt y3), .un, .un])) (Γb := (fun (b : Unit) => [.fz ((eT (eT eInt)) v_lines), .un, .un, .un])) (q_forO (er := (eO (eP (eC eInt (eC eInt (eC eInt (eC eInt eU))))))) (set := (st1 2 eInt)) (is := [2]) (fun (b : Unit) => [.fz ((eT (eT eInt)) v_lines), .fz (eInt y3), .un, .un]) () (fun (b11 : Unit) (y10 : Int) => (Pz.bindM (Pz.bindM (pureM v_lines) fun (x13 : (List (List Int))) => (Pz.bindM (pureM y3) fun (x14 : Int) => (Pz.bindM (pureM y10) fun (x15 : Int) => m_shared_points x13 x14 x15))) fun (r12 : (List Int)) => (Pz.bindM (Pz.bindM (Pz.bindM (pureM r12) fun (x16 : (List Int)) => pureM (x16.length : Int)) fun (x17 : Int) => (Pz.bindM (pureM (1 : Int)) fun (x18 : Int) => pureM (decide (x18 < x17)))) fun (x19 : Bool) => if x19 then Pz.bindM (Pz.bindM (Pz.bindM (pureM y3) fun (x30 : Int) => (Pz.bindM (Pz.bindM (pureM y10) fun (x28 : Int) => (Pz.bindM (Pz.bindM (Pz.bindM (pureM r12) fun (x20 : (List Int)) => (Pz.bindM (pureM (0 : Int)) fun (x21 : Int) => optM (atI x20 x21))) fun (x26 : Int) => (Pz.bindM (Pz.bindM (Pz.bindM (pureM r12) fun (x22 : (List Int)) => (Pz.bindM (pureM (1 : Int)) fun (x23 : Int) => optM (atI x22 x23))) fun (x24 : Int) => (Pz.bindM (pureM ()) fun (x25 : Unit) => pureM (x24, x25))) fun (x27 : (Int × Unit)) => pureM (x26, x27))) fun (x29 : (Int × (Int × Unit))) => pureM (x28, x29))) fun (x31 : (Int × (Int × (Int × Unit)))) => pureM (x30, x31))) fun (x32 : (Int × Int × Int × Int × Unit)) => pureM (some x32)) (fun (x33 : (Option (Int × Int × Int × Int × Unit))) => pureM (Out.rt x33)) else (pureM (Out.nx ()))))) PassesOwn.never rfl (i_range2 B.b_range (e_add (e_var 1 eInt y3) e_int) (e_lenT B.b_len bt_len (e_var 0 (eT (eT eInt)) v_lines))) (g1 2 eInt sc.nd) noow1 (.eq (.eq (.un (.un .nil)))) (fun (b11 : Unit) (y10 : Int) => (s_step (Γ1 := fun (r12 : (List Int)) => [.fz ((eT (eT eInt)) v_lines), .fz (eInt y3), .fz (eInt y10), .fz ((eT eInt) r12)]) (q_set 3 (e_c3 (F_shared_points.mono (by decide)) hG hr C_shared_points.mg C_shared_points.kp C_shared_points.bd (e_var 0 (eT (eT eInt)) v_lines) (e_var 1 eInt y3) (e_var 2 eInt y10)) sc.nd) (fun (r12 : (List Int)) => (s_ifret2 (Γb := (fun (b : Unit) => [.fz ((eT (eT eInt)) v_lines), .fz (eInt y3), .un, .un])) (t_gt (e_lenT B.b_len bt_len (e_var 3 (eT eInt) r12)) e_int) (s_ret0 (e_enc (eb := (eO (eP (eC eInt (eC eInt (eC eInt (eC eInt eU))))))) some (e_tup (eC eInt (eC eInt (eC eInt (eC eInt eU)))) (a_cons (e_var 1 eInt y3) (a_cons (e_var 2 eInt y10) (a_cons (e_ixT (e_var 3 (eT eInt) r12) e_int) (a_cons (e_ixT (e_var 3 (eT eInt) r12) e_int) a_nil)))) (hl := fun _ => (by decide : 4 ≤ sizeLine))) (fun _ => rfl))) (s_nilO (Γb := (fun (b : Unit) => [.fz ((eT (eT eInt)) v_lines), .fz (eInt y3), .un, .un])) () (.eq (.eq (.un (.un .nil)))))))))) (fun (r35 : Unit) => (s_nilO (Γb := (fun (b : Unit) => [.fz ((eT (eT eInt)) v_lines), .un, .un, .un])) () (.eq (.un (.un (.un .nil))))))))) (fun (r37 : Unit) => (s_ret0 (e_enc (eb := (eO (eP (eC eInt (eC eInt (eC eInt (eC eInt eU))))))) (fun _ => (none : (Option (Int × Int × Int × Int × Unit)))) e_non (fun _ => rfl)))))

abbrev s_ring_paper : Stmt := topS 8
def N_ring_paper : List Str := ["lines", "m", "ring", "rows", "pair", "through"]
theorem sc_ring_paper : FnScope N_ring_paper ["lines", "m"] (defScope s_ring_paper) := ⟨rfl, rfl, rfl, by decide +kernel, rfl, by decide +kernel, by decide +kernel⟩
def m_ring_paper (v_lines : (List (List Int))) (v_m : Int) : M PyData := (Pz.bindM (Pz.bindM (pureM v_lines) fun (x2 : (List (List Int))) => m_first_ring x2) fun (r1 : (Option (Int × Int × Int × Int × Unit))) => (Pz.bindM (Pz.bindM (pureM r1) fun (x3 : (Option (Int × Int × Int × Int × Unit))) => pureM x3.isSome) fun (x4 : Bool) => if x4 then (Pz.bindM (Pz.bindM (Pz.bindM (Pz.bindM (pureM ("ring" : Str)) fun (x5 : Str) => (Pz.bindM (pureM ()) fun (x6 : Unit) => pureM (x5, x6))) fun (x7 : (Str × Unit)) => pureM ((fun p : (Str × Unit) => [eStr p.1]) x7)) fun (x10 : (List PyData)) => (Pz.bindM (Pz.bindM (Pz.bindM (pureM r1) fun (x8 : (Option (Int × Int × Int × Int × Unit))) => optM x8) fun (x9 : (Int × Int × Int × Int × Unit)) => pureM ((fun p : (Int × Int × Int × Int × Unit) => [eInt p.1, eInt p.2.1, eInt p.2.2.1, eInt p.2.2.2.1]) x9)) fun (x11 : (List PyData)) => optM (catO x10 x11))) fun (x12 : (List PyData)) => pureM ((eT eD) x12)) else (Pz.bindM (smallM (pureM ([] : List (Option Int)))) fun (r13 : (List (Option Int))) => (Pz.bindM (Pz.bindM (Pz.bindM (pureM v_m) fun (x14 : Int) => (Pz.bindM (pureM (2 : Int)) fun (x15 : Int) => m_some_lots x14 x15)) fun (x30 : (List (List Int))) => forM' (fun (b17 : ((List (Option Int)))) (y16 : (List Int)) => (Pz.bindM (Pz.bindM (pureM v_lines) fun (x19 : (List (List Int))) => (Pz.bindM (pureM y16) fun (x20 : (List Int)) => m_lines_through x19 x20)) fun (r18 : (List Int)) => (Pz.bindM (Pz.bindM (Pz.bindM (Pz.bindM (pureM r18) fun (x22 : (List Int)) => (Pz.bindM (smallM (pureM ([] : List Int))) fun (x23 : (List Int)) => pureM (!decide (x22 = x23)))) fun (x28 : Bool) => if x28 then (Pz.bindM (Pz.bindM (pureM r18) fun (x24 : (List Int)) => (Pz.bindM (pureM (0 : Int)) fun (x25 : Int) => optM (atI x24 x25))) fun (x26 : Int) => pureM (some x26)) else (Pz.bindM (pureM ()) fun (x27 : Unit) => pureM (none : (Option Int)))) fun (x29 : (Option Int)) => appM b17 x29) fun (r21 : (List (Option Int))) => (pureM r21)))) x30 r13) fun (r31 : ((List (Option Int)))) => (Pz.bindM (Pz.bindM (pureM ("pairs" : Str)) fun (x35 : Str) => (Pz.bindM (Pz.bindM (Pz.bindM (pureM r31) fun (x32 : (List (Option Int))) => optM (some x32)) fun (x33 : (List (Option Int))) => (Pz.bindM (pureM ()) fun (x34 : Unit) => pureM (x33, x34))) fun (x36 : ((List (Option Int)) × Unit)) => pureM (x35, x36))) fun (x37 : (Str × (List (Option Int)) × Unit)) => pureM ((eP (eC eStr (eC (eT (eO eInt)) eU))) x37))))))
theorem ok_ring_paper {f : Addr} {fd : FuncData} (F : Fun K "ring_paper" "ring_paper" s_ring_paper f fd) (B : Bl mg)
    {f_first_ring : Addr} {d_first_ring : FuncData} (C_first_ring : Cal K mg "first_ring" f_first_ring d_first_ring ["lines"]) (F_first_ring : FnG P w K mg base 2 f_first_ring d_first_ring ["lines"] (SpM (fun p : (List (List Int)) × Unit => [.fz ((eT (eT eInt)) p.1)]) (eO (eP (eC eInt (eC eInt (eC eInt (eC eInt eU)))))) (fun p : (List (List Int)) × Unit => m_first_ring p.1)))
    {f_some_lots : Addr} {d_some_lots : FuncData} (C_some_lots : Cal K mg "some_lots" f_some_lots d_some_lots ["m", "s"]) (F_some_lots : FnG P w K mg base 1 f_some_lots d_some_lots ["m", "s"] (SpM (fun p : Int × Int × Unit => [.fz (eInt p.1), .fz (eInt p.2.1)]) (eL (eT eInt)) (fun p : Int × Int × Unit => m_some_lots p.1 p.2.1)))
    {f_lines_through : Addr} {d_lines_through : FuncData} (C_lines_through : Cal K mg "lines_through" f_lines_through d_lines_through ["lines", "lot"]) (F_lines_through : FnG P w K mg base 1 f_lines_through d_lines_through ["lines", "lot"] (SpM (fun p : (List (List Int)) × (List Int) × Unit => [.fz ((eT (eT eInt)) p.1), .fz ((eT eInt) p.2.1)]) (eL eInt) (fun p : (List (List Int)) × (List Int) × Unit => m_lines_through p.1 p.2.1))) :
    FnG P w K mg base 3 f fd ["lines", "m"] (SpM (fun p : (List (List Int)) × Int × Unit => [.fz ((eT (eT eInt)) p.1), .fz (eInt p.2.1)]) eD (fun p : (List (List Int)) × Int × Unit => m_ring_paper p.1 p.2.1)) := by
  refine g_ok F sc_ring_paper (fun p : (List (List Int)) × Int × Unit => [.fz ((eT (eT eInt)) p.1), .fz (eInt p.2.1)]) eD (fun p : (List (List Int)) × Int × Unit => m_ring_paper p.1 p.2.1) (fun p => [.fz ((eT (eT eInt)) p.1), .fz (eInt p.2.1), .un, .un, .un, .un]) (fun _ => rfl) (fun _ => rfl) ?_
  intro cdv A above s H E R p hG hr
  obtain ⟨v_lines, v_m, uu⟩ := p
  have sc := sc_ring_paper
  exact (s_step (Γ1 := fun (r1 : (Option (Int × Int × Int × Int × Unit))) => [.fz ((eT (eT eInt)) v_lines), .fz (eInt v_m), .fz ((eO (eP (eC eInt (eC eInt (eC eInt (eC eInt eU)))))) r1), .un, .un, .un]) (q_set 2 (e_c1 (F_first_ring.mono (by decide)) hG hr C_first_ring.mg C_first_ring.kp C_first_ring.bd (e_var 0 (eT (eT eInt)) v_lines)) sc.nd) (fun (r1 : (Option (Int × Int × Int × Int × Unit))) => (s_ifret1 (t_notN NN.pr (e_var 2 (eO (eP (eC eInt (eC eInt (eC eInt (eC eInt eU)))))) r1)) (s_ret0 (e_enc (eb := eD) (fun x => (eT eD) x) (e_catT (e_enc (eb := (eT eD)) (fun p : (Str × Unit) => [eStr p.1]) (e_tup (eC eStr eU) (a_cons e_str a_nil) (hl := fun _ => (by decide : 1 ≤ sizeLine))) (fun _ => rfl)) (e_enc (eb := (eT eD)) (fun p : (Int × Int × Int × Int × Unit) => [eInt p.1, eInt p.2.1, eInt p.2.2.1, eInt p.2.2.2.1]) (e_some (e_var 2 (eO (eP (eC eInt (eC eInt (eC eInt (eC eInt eU)))))) r1)) (fun _ => rfl))) (fun _ => rfl))) (s_step (Γ1 := fun (r13 : (List (Option Int))) => [.fz ((eT (eT eInt)) v_lines), .fz (eInt v_m), .fz ((eO (eP (eC eInt (eC eInt (eC eInt (eC eInt eU)))))) r1), .ow ((eL (eO eInt)) r13), .un, .un]) (q_setF 3 (f_list l_nil) sc.nd) (fun (r13 : (List (Option Int))) => (s_step (Γ1 := (fun (b : ((List (Option Int)))) => [.fz ((eT (eT eInt)) v_lines), .fz (eInt v_m), .fz ((eO (eP (eC eInt (eC eInt (eC eInt (eC eInt eU)))))) r1), .ow ((eL (eO eInt)) b), .un, .un])) (q_for (set := (st1 4 (eT eInt))) (is := [4]) (fun (b : ((List (Option Int)))) => [.fz ((eT (eT eInt)) v_lines), .fz (eInt v_m), .fz ((eO (eP (eC eInt (eC eInt (eC eInt (eC eInt eU)))))) r1), .ow ((eL (eO eInt)) b), .un, .un]) r13 (fun (b17 : ((List (Option Int)))) (y16 : (List Int)) => (Pz.bindM (Pz.bindM (pureM v_lines) fun (x19 : (List (List Int))) => (Pz.bindM (pureM y16) fun (x20 : (List Int)) => m_lines_through x19 x20)) fun (r18 : (List Int)) => (Pz.bindM (Pz.bindM (Pz.bindM (Pz.bindM (pureM r18) fun (x22 : (List Int)) => (Pz.bindM (smallM (pureM ([] : List Int))) fun (x23 : (List Int)) => pureM (!decide (x22 = x23)))) fun (x28 : Bool) => if x28 then (Pz.bindM (Pz.bindM (pureM r18) fun (x24 : (List Int)) => (Pz.bindM (pureM (0 : Int)) fun (x25 : Int) => optM (atI x24 x25))) fun (x26 : Int) => pureM (some x26)) else (Pz.bindM (pureM ()) fun (x27 : Unit) => pureM (none : (Option Int)))) fun (x29 : (Option Int)) => appM b17 x29) fun (r21 : (List (Option Int))) => (pureM r21)))) PassesOwn.never rfl (i_list (e_c2 (F_some_lots.mono (by decide)) hG hr C_some_lots.mg C_some_lots.kp C_some_lots.bd (e_var 1 eInt v_m) e_int)) (g1 4 (eT eInt) sc.nd) noow1 (.eq (.eq (.eq (.eq (.un (.un .nil)))))) (fun (b17 : ((List (Option Int)))) (y16 : (List Int)) => (s_step (Γ1 := fun (r18 : (List Int)) => [.fz ((eT (eT eInt)) v_lines), .fz (eInt v_m), .fz ((eO (eP (eC eInt (eC eInt (eC eInt (eC eInt eU)))))) r1), .ow ((eL (eO eInt)) b17), .fz ((eT eInt) y16), .fz ((eL eInt) r18)]) (q_set 5 (e_c2 (F_lines_through.mono (by decide)) hG hr C_lines_through.mg C_lines_through.kp C_lines_through.bd (e_var 0 (eT (eT eInt)) v_lines) (e_var 4 (eT eInt) y16)) sc.nd) (fun (r18 : (List Int)) => (s_step (Γ1 := fun (r21 : (List (Option Int))) => [.fz ((eT (eT eInt)) v_lines), .fz (eInt v_m), .fz ((eO (eP (eC eInt (eC eInt (eC eInt (eC eInt eU)))))) r1), .ow ((eL (eO eInt)) r21), .fz ((eT eInt) y16), .fz ((eL eInt) r18)]) (q_app 3 b17 (e_if (t_neP (n := 1) hr (Dc.lst Dc.int) (e_var 5 (eL eInt) r18) (f_e (f_list l_nil))) (e_enc (eb := (eO eInt)) some (e_ixL (e_var 5 (eL eInt) r18) e_int) (fun _ => rfl)) (e_enc (eb := (eO eInt)) (fun _ => (none : (Option Int))) e_non (fun _ => rfl)))) (fun (r21 : (List (Option Int))) => (s_nilN (Γb := (fun (b : ((List (Option Int)))) => [.fz ((eT (eT eInt)) v_lines), .fz (eInt v_m), .fz ((eO (eP (eC eInt (eC eInt (eC eInt (eC eInt eU)))))) r1), .ow ((eL (eO eInt)) b), .un, .un])) r21 (.eq (.eq (.eq (.eq (.un (.un .nil))))))))))))) (fun (r31 : ((List (Option Int)))) => (s_low (Γ' := [.fz ((eT (eT eInt)) v_lines), .fz (eInt v_m), .fz ((eO (eP (eC eInt (eC eInt (eC eInt (eC eInt eU)))))) r1), .fz ((eL (eO eInt)) r31), .un, .un]) (.eq (.eq (.eq (.fr (.un (.un .nil)))))) (s_ret0 (e_enc (eb := eD) (fun x => (eP (eC eStr (eC (eT (eO eInt)) eU))) x) (e_tup (eC eStr (eC (eT (eO eInt)) eU)) (a_cons e_str (a_cons (e_t1 (ea := (eL (eO eInt))) (ec := (eT (eO eInt))) (f := fun x => some x) call_tuple_of v_tupL B.b_tuple bt_tuple (e_var 3 (eL (eO eInt)) r31)) a_nil)) (hl := fun _ => (by decide : 2 ≤ sizeLine))) (fun _ => rfl)))))))))))

abbrev s_is_ring_form : Stmt := topS 9
def N_is_ring_form : List Str := ["n", "m", "value", "one", "r"]
theorem sc_is_ring_form : FnScope N_is_ring_form ["n", "m", "value"] (defScope s_is_ring_form) := ⟨rfl, rfl, rfl, by decide +kernel, rfl, by decide +kernel, by decide +kernel⟩
def m_is_ring_form (v_n : Int) (v_m : Int) (v_value : PyData) : M Bool := (Pz.bindM (Pz.bindM (Pz.bindM (Pz.bindM (pureM v_value) fun (x1 : PyData) => pureM (isTy "tuple" (eD x1))) fun (x2 : Bool) => pureM (!x2)) fun (x13 : Bool) => if x13 then pureM true else (Pz.bindM (Pz.bindM (Pz.bindM (Pz.bindM (pureM v_value) fun (x3 : PyData) => optM (asTup x3)) fun (x4 : (List PyData)) => pureM (x4.length : Int)) fun (x5 : Int) => (Pz.bindM (pureM (2 : Int)) fun (x6 : Int) => pureM (decide (x5 < x6)))) fun (x12 : Bool) => if x12 then pureM true else (Pz.bindM (Pz.bindM (Pz.bindM (Pz.bindM (pureM v_value) fun (x7 : PyData) => optM (asTup x7)) fun (x8 : (List PyData)) => (Pz.bindM (pureM (0 : Int)) fun (x9 : Int) => optM (atI x8 x9))) fun (x10 : PyData) => pureM (isTy "str" (eD x10))) fun (x11 : Bool) => pureM (!x11)))) fun (x14 : Bool) => if x14 then (pureM false) else (Pz.bindM (Pz.bindM (Pz.bindM (Pz.bindM (pureM v_value) fun (x15 : PyData) => optM (asTup x15)) fun (x16 : (List PyData)) => (Pz.bindM (pureM (0 : Int)) fun (x17 : Int) => optM (atI x16 x17))) fun (x18 : PyData) => (Pz.bindM (pureM ("ring" : Str)) fun (x19 : Str) => optM (eqZ (eD x18) (eStr x19)))) fun (x20 : Bool) => if x20 then (Pz.bindM (Pz.bindM (Pz.bindM (Pz.bindM (Pz.bindM (pureM v_value) fun (x21 : PyData) => optM (asTup x21)) fun (x22 : (List PyData)) => pureM (x22.length : Int)) fun (x23 : Int) => (Pz.bindM (pureM (5 : Int)) fun (x24 : Int) => pureM (!decide (x23 = x24)))) fun (x35 : Bool) => if x35 then pureM true else (Pz.bindM (Pz.bindM (Pz.bindM (Pz.bindM (Pz.bindM (pureM v_value) fun (x25 : PyData) => optM (asTup x25)) fun (x27 : (List PyData)) => (Pz.bindM (Pz.bindM (pureM (1 : Int)) fun (x26 : Int) => pureM (some x26)) fun (x28 : (Option Int)) => (Pz.bindM (pureM (none : Option Int)) fun (x29 : (Option Int)) => pureM (cutL x27 x28 x29)))) fun (x32 : (List PyData)) => compM (fun (y30 : PyData) => (pureM true)) (fun (y30 : PyData) => (Pz.bindM (pureM y30) fun (x31 : PyData) => m_is_web_number x31)) x32) fun (x33 : (List Bool)) => optM (some (x33.all id))) fun (x34 : Bool) => pureM (!x34))) fun (x36 : Bool) => if x36 then (pureM false) else (Pz.bindM (Pz.bindM (Pz.bindM (Pz.bindM (Pz.bindM (pureM v_value) fun (x37 : PyData) => optM (asTup x37)) fun (x38 : (List PyData)) => (Pz.bindM (pureM (1 : Int)) fun (x39 : Int) => optM (atI x38 x39))) fun (x40 : PyData) => optM (asInt x40)) fun (x45 : Int) => (Pz.bindM (Pz.bindM (Pz.bindM (Pz.bindM (pureM v_value) fun (x41 : PyData) => optM (asTup x41)) fun (x42 : (List PyData)) => (Pz.bindM (pureM (2 : Int)) fun (x43 : Int) => optM (atI x42 x43))) fun (x44 : PyData) => optM (asInt x44)) fun (x46 : Int) => (Pz.bindM (optM (some (decide (x45 < x46)))) fun (x48 : Bool) => if x48 then (Pz.bindM (pureM v_n) fun (x47 : Int) => optM (some (decide (x46 < x47)))) else pureM false))) fun (x61 : Bool) => if x61 then (Pz.bindM (Pz.bindM (Pz.bindM (Pz.bindM (pureM v_value) fun (x49 : PyData) => optM (asTup x49)) fun (x50 : (List PyData)) => (Pz.bindM (pureM (3 : Int)) fun (x51 : Int) => optM (atI x50 x51))) fun (x52 : PyData) => optM (asInt x52)) fun (x57 : Int) => (Pz.bindM (Pz.bindM (Pz.bindM (Pz.bindM (pureM v_value) fun (x53 : PyData) => optM (asTup x53)) fun (x54 : (List PyData)) => (Pz.bindM (pureM (4 : Int)) fun (x55 : Int) => optM (atI x54 x55))) fun (x56 : PyData) => optM (asInt x56)) fun (x58 : Int) => (Pz.bindM (optM (some (decide (x57 < x58)))) fun (x60 : Bool) => if x60 then (Pz.bindM (pureM v_m) fun (x59 : Int) => optM (some (decide (x58 < x59)))) else pureM false))) else pureM false)) else (Pz.bindM (Pz.bindM (Pz.bindM (Pz.bindM (Pz.bindM (pureM v_value) fun (x62 : PyData) => optM (asTup x62)) fun (x63 : (List PyData)) => (Pz.bindM (pureM (0 : Int)) fun (x64 : Int) => optM (atI x63 x64))) fun (x65 : PyData) => (Pz.bindM (pureM ("pairs" : Str)) fun (x66 : Str) => optM ((eqZ (eD x65) (eStr x66)).map (!·)))) fun (x77 : Bool) => if x77 then pureM true else (Pz.bindM (Pz.bindM (Pz.bindM (Pz.bindM (pureM v_value) fun (x67 : PyData) => optM (asTup x67)) fun (x68 : (List PyData)) => pureM (x68.length : Int)) fun (x69 : Int) => (Pz.bindM (pureM (2 : Int)) fun (x70 : Int) => pureM (!decide (x69 = x70)))) fun (x76 : Bool) => if x76 then pureM true else (Pz.bindM (Pz.bindM (Pz.bindM (Pz.bindM (pureM v_value) fun (x71 : PyData) => optM (asTup x71)) fun (x72 : (List PyData)) => (Pz.bindM (pureM (1 : Int)) fun (x73 : Int) => optM (atI x72 x73))) fun (x74 : PyData) => pureM (isTy "tuple" (eD x74))) fun (x75 : Bool) => pureM (!x75)))) fun (x78 : Bool) => if x78 then (pureM false) else (Pz.bindM (Pz.bindM (Pz.bindM (Pz.bindM (Pz.bindM (Pz.bindM (pureM v_value) fun (x79 : PyData) => optM (asTup x79)) fun (x80 : (List PyData)) => (Pz.bindM (pureM (1 : Int)) fun (x81 : Int) => optM (atI x80 x81))) fun (x82 : PyData) => optM (asTup x82)) fun (x83 : (List PyData)) => pureM (x83.length : Int)) fun (x90 : Int) => (Pz.bindM (Pz.bindM (Pz.bindM (pureM v_m) fun (x86 : Int) => (Pz.bindM (Pz.bindM (pureM v_m) fun (x84 : Int) => (Pz.bindM (pureM (1 : Int)) fun (x85 : Int) => pureM (x84 - x85))) fun (x87 : Int) => optM (mulO x86 x87))) fun (x88 : Int) => (Pz.bindM (pureM (2 : Int)) fun (x89 : Int) => optM (divO x88 x89))) fun (x91 : Int) => pureM (!decide (x90 = x91)))) fun (x92 : Bool) => if x92 then (pureM false) else (Pz.bindM (Pz.bindM (Pz.bindM (Pz.bindM (Pz.bindM (pureM v_value) fun (x93 : PyData) => optM (asTup x93)) fun (x94 : (List PyData)) => (Pz.bindM (pureM (1 : Int)) fun (x95 : Int) => optM (atI x94 x95))) fun (x96 : PyData) => optM (asTup x96)) fun (x105 : (List PyData)) => compM (fun (y97 : PyData) => (pureM true)) (fun (y97 : PyData) => (Pz.bindM (Pz.bindM (pureM y97) fun (x98 : PyData) => pureM (isNon x98)) fun (x104 : Bool) => if x104 then pureM true else (Pz.bindM (Pz.bindM (pureM y97) fun (x99 : PyData) => m_is_web_number x99) fun (x103 : Bool) => if x103 then (Pz.bindM (Pz.bindM (pureM y97) fun (x100 : PyData) => optM (asInt x100)) fun (x101 : Int) => (Pz.bindM (pureM v_n) fun (x102 : Int) => pureM (decide (x101 < x102)))) else pureM false))) x105) fun (x106 : (List Bool)) => optM (some (x106.all id)))))))
theorem ok_is_ring_form {f : Addr} {fd : FuncData} (F : Fun K "is_ring_form" "is_ring_form" s_is_ring_form f fd) (B : Bl mg)
    {f_is_web_number : Addr} {d_is_web_number : FuncData} (C_is_web_number : Cal K mg "is_web_number" f_is_web_number d_is_web_number ["value"]) (F_is_web_number : FnG P w K mg base 1 f_is_web_number d_is_web_number ["value"] (SpM (fun p : PyData × Unit => [.fz (eD p.1)]) eBool (fun p : PyData × Unit => m_is_web_number p.1))) :
    FnG P w K mg base 2 f fd ["n", "m", "value"] (SpM (fun p : Int × Int × PyData × Unit => [.fz (eInt p.1), .fz (eInt p.2.1), .fz (eD p.2.2.1)]) eBool (fun p : Int × Int × PyData × Unit => m_is_ring_form p.1 p.2.1 p.2.2.1)) := by
  refine g_ok F sc_is_ring_form (fun p : Int × Int × PyData × Unit => [.fz (eInt p.1), .fz (eInt p.2.1), .fz (eD p.2.2.1)]) eBool (fun p : Int × Int × PyData × Unit => m_is_ring_form p.1 p.2.1 p.2.2.1) (fun p => [.fz (eInt p.1), .fz (eInt p.2.1), .fz (eD p.2.2.1), .un, .un]) (fun _ => rfl) (fun _ => rfl) ?_
  intro cdv A above s H E R p hG hr
  obtain ⟨v_n, v_m, v_value, uu⟩ := p
  have sc := sc_is_ring_form
  exact (s_ifret1 (w_t (w_or (t_not (t_val (e_isi (ea := eD) (fun K d => kit_tuple d) B.b_isinstance B.b_tuple bt_tuple (e_var 2 eD v_value)))) (w_or (t_lt (e_lenT B.b_len bt_len (e_dTup (e_var 2 eD v_value))) e_int) (w_or1 (t_not (t_val (e_isi (ea := eD) (fun K d => kit_str d) B.b_isinstance B.b_str bt_str (e_ixT (e_dTup (e_var 2 eD v_value)) e_int)))))))) (s_ret0 e_bool) (s_ifret1 (t_eqZ hr (e_ixT (e_dTup (e_var 2 eD v_value)) e_int) e_str) (s_ifret1 (w_t (w_or (t_neI (e_lenT B.b_len bt_len (e_dTup (e_var 2 eD v_value))) e_int) (w_or1 (t_not (t_val (e_b1 (ea := (eL eBool)) (ec := eBool) (f := fun x => some (x.all id)) (cr_all rfl) v_all B.b_all bt_all (f_e (f_lc (set := (st1 3 eD)) (is := [3]) [("one", 3)] (fun (y30 : PyData) => (pureM true)) (fun (y30 : PyData) => (Pz.bindM (pureM y30) fun (x31 : PyData) => m_is_web_number x31)) rfl sc.nd (i_tup (e_slT (e_dTup (e_var 2 eD v_value)) (p_some e_int) p_none)) (blkOk_by (N := N_is_ring_form) (sc := (defScope s_is_ring_form)) (by decide +kernel)) (fun _ _ _ _ _ => (g1 3 eD sc.nd)) (fun _ _ _ _ _ (y30 : PyData) => c_nil) (fun _ _ _ _ _ (y30 : PyData) => (e_c1 (F_is_web_number.mono (by decide)) hG hr C_is_web_number.mg C_is_web_number.kp C_is_web_number.bd (e_var 3 eD y30))) noow1 sm1 (fun _ h => h) (noOw rfl))))))))) (s_ret0 e_bool) (s_ret0 (e_and (e_chain (f := (fun x y => some (decide (x < y)))) (g := (fun x y => some (decide (x < y)))) op_lt op_lt v_cmp2 v_cmp2 (e_dInt (e_ixT (e_dTup (e_var 2 eD v_value)) e_int)) (e_dInt (e_ixT (e_dTup (e_var 2 eD v_value)) e_int)) (e_var 0 eInt v_n)) (e_one1 (e_chain (f := (fun x y => some (decide (x < y)))) (g := (fun x y => some (decide (x < y)))) op_lt op_lt v_cmp2 v_cmp2 (e_dInt (e_ixT (e_dTup (e_var 2 eD v_value)) e_int)) (e_dInt (e_ixT (e_dTup (e_var 2 eD v_value)) e_int)) (e_var 1 eInt v_m)))))) (s_ifret1 (w_t (w_or (t_neZ hr (e_ixT (e_dTup (e_var 2 eD v_value)) e_int) e_str) (w_or (t_neI (e_lenT B.b_len bt_len (e_dTup (e_var 2 eD v_value))) e_int) (w_or1 (t_not (t_val (e_isi (ea := eD) (fun K d => kit_tuple d) B.b_isinstance B.b_tuple bt_tuple (e_ixT (e_dTup (e_var 2 eD v_value)) e_int)))))))) (s_ret0 e_bool) (s_ifret1 (t_neI (e_lenT B.b_len bt_len (e_dTup (e_ixT (e_dTup (e_var 2 eD v_value)) e_int))) (e_div (e_mul (e_var 1 eInt v_m) (e_sub (e_var 1 eInt v_m) e_int)) e_int)) (s_ret0 e_bool) (s_ret0 (e_b1 (ea := (eL eBool)) (ec := eBool) (f := fun x => some (x.all id)) (cr_all rfl) v_all B.b_all bt_all (f_e (f_lc (set := (st1 4 eD)) (is := [4]) [("r", 4)] (fun (y97 : PyData) => (pureM true)) (fun (y97 : PyData) => (Pz.bindM (Pz.bindM (pureM y97) fun (x98 : PyData) => pureM (isNon x98)) fun (x104 : Bool) => if x104 then pureM true else (Pz.bindM (Pz.bindM (pureM y97) fun (x99 : PyData) => m_is_web_number x99) fun (x103 : Bool) => if x103 then (Pz.bindM (Pz.bindM (pureM y97) fun (x100 : PyData) => optM (asInt x100)) fun (x101 : Int) => (Pz.bindM (pureM v_n) fun (x102 : Int) => pureM (decide (x101 < x102)))) else pureM false))) rfl sc.nd (i_tup (e_dTup (e_ixT (e_dTup (e_var 2 eD v_value)) e_int))) (blkOk_by (N := N_is_ring_form) (sc := (defScope s_is_ring_form)) (by decide +kernel)) (fun _ _ _ _ _ => (g1 4 eD sc.nd)) (fun _ _ _ _ _ (y97 : PyData) => c_nil) (fun _ _ _ _ _ (y97 : PyData) => (e_or (e_isNd (e_var 4 eD y97)) (e_one1 (e_and (e_c1 (F_is_web_number.mono (by decide)) hG hr C_is_web_number.mg C_is_web_number.kp C_is_web_number.bd (e_var 4 eD y97)) (e_one1 (e_lt (e_dInt (e_var 4 eD y97)) (e_var 0 eInt v_n))))))) noow1 sm1 (fun _ h => h) (noOw rfl)))))))))

abbrev s_ring_fault : Stmt := topS 10
def N_ring_fault : List Str := ["lines", "r", "s", "c", "d", "line", "x"]
theorem sc_ring_fault : FnScope N_ring_fault ["lines", "r", "s", "c", "d"] (defScope s_ring_fault) := ⟨rfl, rfl, rfl, by decide +kernel, rfl, by decide +kernel, by decide +kernel⟩
def m_ring_fault (v_lines : (List (List Int))) (v_r : Int) (v_s : Int) (v_c : Int) (v_d : Int) : M PyData := (Pz.bindM (Pz.bindM (Pz.bindM (Pz.bindM (Pz.bindM (pureM v_r) fun (x3 : Int) => (Pz.bindM (Pz.bindM (pureM v_c) fun (x1 : Int) => (Pz.bindM (pureM ()) fun (x2 : Unit) => pureM (x1, x2))) fun (x4 : (Int × Unit)) => pureM (x3, x4))) fun (x23 : (Int × Int × Unit)) => (Pz.bindM (Pz.bindM (Pz.bindM (pureM v_r) fun (x7 : Int) => (Pz.bindM (Pz.bindM (pureM v_d) fun (x5 : Int) => (Pz.bindM (pureM ()) fun (x6 : Unit) => pureM (x5, x6))) fun (x8 : (Int × Unit)) => pureM (x7, x8))) fun (x21 : (Int × Int × Unit)) => (Pz.bindM (Pz.bindM (Pz.bindM (pureM v_s) fun (x11 : Int) => (Pz.bindM (Pz.bindM (pureM v_c) fun (x9 : Int) => (Pz.bindM (pureM ()) fun (x10 : Unit) => pureM (x9, x10))) fun (x12 : (Int × Unit)) => pureM (x11, x12))) fun (x19 : (Int × Int × Unit)) => (Pz.bindM (Pz.bindM (Pz.bindM (pureM v_s) fun (x15 : Int) => (Pz.bindM (Pz.bindM (pureM v_d) fun (x13 : Int) => (Pz.bindM (pureM ()) fun (x14 : Unit) => pureM (x13, x14))) fun (x16 : (Int × Unit)) => pureM (x15, x16))) fun (x17 : (Int × Int × Unit)) => (Pz.bindM (pureM ()) fun (x18 : Unit) => pureM (x17, x18))) fun (x20 : ((Int × Int × Unit) × Unit)) => pureM (x19, x20))) fun (x22 : ((Int × Int × Unit) × ((Int × Int × Unit) × Unit))) => pureM (x21, x22))) fun (x24 : ((Int × Int × Unit) × ((Int × Int × Unit) × ((Int × Int × Unit) × Unit)))) => pureM (x23, x24))) fun (x25 : ((Int × Int × Unit) × (Int × Int × Unit) × (Int × Int × Unit) × (Int × Int × Unit) × Unit)) => pureM ((fun p : ((Int × Int × Unit) × (Int × Int × Unit) × (Int × Int × Unit) × (Int × Int × Unit) × Unit) => [p.1, p.2.1, p.2.2.1, p.2.2.2.1]) x25)) fun (x41 : (List (Int × Int × Unit))) => forO (fun (b27 : Unit) (y26 : (Int × Int × Unit)) => (Pz.bindM (Pz.bindM (pureM y26.2.1) fun (x30 : Int) => (Pz.bindM (Pz.bindM (pureM v_lines) fun (x28 : (List (List Int))) => (Pz.bindM (pureM y26.1) fun (x29 : Int) => optM (atI x28 x29))) fun (x31 : (List Int)) => pureM (!decide (x30 ∈ x31)))) fun (x32 : Bool) => if x32 then Pz.bindM (Pz.bindM (Pz.bindM (pureM ("off" : Str)) fun (x37 : Str) => (Pz.bindM (Pz.bindM (pureM y26.1) fun (x35 : Int) => (Pz.bindM (Pz.bindM (pureM y26.2.1) fun (x33 : Int) => (Pz.bindM (pureM ()) fun (x34 : Unit) => pureM (x33, x34))) fun (x36 : (Int × Unit)) => pureM (x35, x36))) fun (x38 : (Int × (Int × Unit))) => pureM (x37, x38))) fun (x39 : (Str × Int × Int × Unit)) => pureM ((eP (eC eStr (eC eInt (eC eInt eU)))) x39)) (fun (x40 : PyData) => pureM (Out.rt x40)) else (pureM (Out.nx ())))) x41 ()) fun o => caseO o (fun (r42 : Unit) => (Pz.bindM (pureM ()) fun (x43 : Unit) => pureM (eNon x43))) pureM)
theorem ok_ring_fault {f : Addr} {fd : FuncData} (F : Fun K "ring_fault" "ring_fault" s_ring_fault f fd) (B : Bl mg) :
    FnG P w K mg base 1 f fd ["lines", "r", "s", "c", "d"] (SpM (fun p : (List (List Int)) × Int × Int × Int × Int × Unit => [.fz ((eT (eT eInt)) p.1), .fz (eInt p.2.1), .fz (eInt p.2.2.1), .fz (eInt p.2.2.2.1), .fz (eInt p.2.2.2.2.1)]) eD (fun p : (List (List Int)) × Int × Int × Int × Int × Unit => m_ring_fault p.1 p.2.1 p.2.2.1 p.2.2.2.1 p.2.2.2.2.1)) := by
  refine g_ok F sc_ring_fault (fun p : (List (List Int)) × Int × Int × Int × Int × Unit => [.fz ((eT (eT eInt)) p.1), .fz (eInt p.2.1), .fz (eInt p.2.2.1), .fz (eInt p.2.2.2.1), .fz (eInt p.2.2.2.2.1)]) eD (fun p : (List (List Int)) × Int × Int × Int × Int × Unit => m_ring_fault p.1 p.2.1 p.2.2.1 p.2.2.2.1 p.2.2.2.2.1) (fun p => [.fz ((eT (eT eInt)) p.1), .fz (eInt p.2.1), .fz (eInt p.2.2.1), .fz (eInt p.2.2.2.1), .fz (eInt p.2.2.2.2.1), .un, .un]) (fun _ => rfl) (fun _ => rfl) ?_
  intro cdv A above s H E R p hG hr
  obtain ⟨v_lines, v_r, v_s, v_c, v_d, uu⟩ := p
  have sc := sc_ring_fault
  exact (s_step1 (er := eD) (Γ1 := (fun (b : Unit) => [.fz ((eT (eT eInt)) v_lines), .fz (eInt v_r), .fz (eInt v_s), .fz (eInt v_c), .fz (eInt v_d), .un, .un])) (q_forO (er := eD) (set := (st2 5 eInt 6 eInt)) (is := [5, 6]) (fun (b : Unit) => [.fz ((eT (eT eInt)) v_lines), .fz (eInt v_r), .fz (eInt v_s), .fz (eInt v_c), .fz (eInt v_d), .un, .un]) () (fun (b27 : Unit) (y26 : (Int × Int × Unit)) => (Pz.bindM (Pz.bindM (pureM y26.2.1) fun (x30 : Int) => (Pz.bindM (Pz.bindM (pureM v_lines) fun (x28 : (List (List Int))) => (Pz.bindM (pureM y26.1) fun (x29 : Int) => optM (atI x28 x29))) fun (x31 : (List Int)) => pureM (!decide (x30 ∈ x31)))) fun (x32 : Bool) => if x32 then Pz.bindM (Pz.bindM (Pz.bindM (pureM ("off" : Str)) fun (x37 : Str) => (Pz.bindM (Pz.bindM (pureM y26.1) fun (x35 : Int) => (Pz.bindM (Pz.bindM (pureM y26.2.1) fun (x33 : Int) => (Pz.bindM (pureM ()) fun (x34 : Unit) => pureM (x33, x34))) fun (x36 : (Int × Unit)) => pureM (x35, x36))) fun (x38 : (Int × (Int × Unit))) => pureM (x37, x38))) fun (x39 : (Str × Int × Int × Unit)) => pureM ((eP (eC eStr (eC eInt (eC eInt eU)))) x39)) (fun (x40 : PyData) => pureM (Out.rt x40)) else (pureM (Out.nx ())))) PassesOwn.never rfl (i_tup (e_enc (eb := (eT (eP (eC eInt (eC eInt eU))))) (fun p : ((Int × Int × Unit) × (Int × Int × Unit) × (Int × Int × Unit) × (Int × Int × Unit) × Unit) => [p.1, p.2.1, p.2.2.1, p.2.2.2.1]) (e_tup (eC (eP (eC eInt (eC eInt eU))) (eC (eP (eC eInt (eC eInt eU))) (eC (eP (eC eInt (eC eInt eU))) (eC (eP (eC eInt (eC eInt eU))) eU)))) (a_cons (e_tup (eC eInt (eC eInt eU)) (a_cons (e_var 1 eInt v_r) (a_cons (e_var 3 eInt v_c) a_nil)) (hl := fun _ => (by decide : 2 ≤ sizeLine))) (a_cons (e_tup (eC eInt (eC eInt eU)) (a_cons (e_var 1 eInt v_r) (a_cons (e_var 4 eInt v_d) a_nil)) (hl := fun _ => (by decide : 2 ≤ sizeLine))) (a_cons (e_tup (eC eInt (eC eInt eU)) (a_cons (e_var 2 eInt v_s) (a_cons (e_var 3 eInt v_c) a_nil)) (hl := fun _ => (by decide : 2 ≤ sizeLine))) (a_cons (e_tup (eC eInt (eC eInt eU)) (a_cons (e_var 2 eInt v_s) (a_cons (e_var 4 eInt v_d) a_nil)) (hl := fun _ => (by decide : 2 ≤ sizeLine))) a_nil)))) (hl := fun _ => (by decide : 4 ≤ sizeLine))) (fun _ => rfl))) (g2 5 6 eInt eInt rfl sc.nd) noow2 (.eq (.eq (.eq (.eq (.eq (.un (.un .nil))))))) (fun (b27 : Unit) (y26 : (Int × Int × Unit)) => (s_ifret2 (Γb := (fun (b : Unit) => [.fz ((eT (eT eInt)) v_lines), .fz (eInt v_r), .fz (eInt v_s), .fz (eInt v_c), .fz (eInt v_d), .un, .un])) (t_ninT (n := 0) hr Dc.int (e_var 6 eInt y26.2.1) (e_ixT (e_var 0 (eT (eT eInt)) v_lines) (e_var 5 eInt y26.1))) (s_ret0 (e_enc (eb := eD) (fun x => (eP (eC eStr (eC eInt (eC eInt eU)))) x) (e_tup (eC eStr (eC eInt (eC eInt eU))) (a_cons e_str (a_cons (e_var 5 eInt y26.1) (a_cons (e_var 6 eInt y26.2.1) a_nil))) (hl := fun _ => (by decide : 3 ≤ sizeLine))) (fun _ => rfl))) (s_nilO (Γb := (fun (b : Unit) => [.fz ((eT (eT eInt)) v_lines), .fz (eInt v_r), .fz (eInt v_s), .fz (eInt v_c), .fz (eInt v_d), .un, .un])) () (.eq (.eq (.eq (.eq (.eq (.un (.un .nil))))))))))) (fun (r42 : Unit) => (s_ret0 (e_enc (eb := eD) (fun x => eNon x) e_non (fun _ => rfl)))))

abbrev s_pairs_fault : Stmt := topS 11
def N_pairs_fault : List Str := ["lines", "m", "rows", "pairs", "k", "r", "more", "x", "s"]
theorem sc_pairs_fault : FnScope N_pairs_fault ["lines", "m", "rows"] (defScope s_pairs_fault) := ⟨rfl, rfl, rfl, by decide +kernel, rfl, by decide +kernel, by decide +kernel⟩
def m_pairs_fault (v_lines : (List (List Int))) (v_m : Int) (v_rows : (List (Option Int))) : M PyData := (Pz.bindM (Pz.bindM (pureM v_m) fun (x2 : Int) => (Pz.bindM (pureM (2 : Int)) fun (x3 : Int) => m_some_lots x2 x3)) fun (r1 : (List (List Int))) => (Pz.bindM (Pz.bindM (Pz.bindM (pureM v_rows) fun (x4 : (List (Option Int))) => pureM (enumL x4)) fun (x27 : (List (Int × (Option Int) × Unit))) => forO (fun (b6 : Unit) (y5 : (Int × (Option Int) × Unit)) => (Pz.bindM (Pz.bindM (Pz.bindM (pureM y5.2.1) fun (x7 : (Option Int)) => pureM x7.isSome) fun (x19 : Bool) => if x19 then (Pz.bindM (Pz.bindM (Pz.bindM (Pz.bindM (pureM r1) fun (x8 : (List (List Int))) => (Pz.bindM (pureM y5.1) fun (x9 : Int) => optM (atI x8 x9))) fun (x16 : (List Int)) => compM (fun (y10 : Int) => (pureM true)) (fun (y10 : Int) => (Pz.bindM (pureM y10) fun (x14 : Int) => (Pz.bindM (Pz.bindM (pureM v_lines) fun (x12 : (List (List Int))) => (Pz.bindM (Pz.bindM (pureM y5.2.1) fun (x11 : (Option Int)) => optM x11) fun (x13 : Int) => optM (atI x12 x13))) fun (x15 : (List Int)) => pureM (decide (x14 ∈ x15))))) x16) fun (x17 : (List Bool)) => optM (some (x17.all id))) fun (x18 : Bool) => pureM (!x18)) else pureM false) fun (x20 : Bool) => if x20 then Pz.bindM (Pz.bindM (Pz.bindM (pureM ("off" : Str)) fun (x23 : Str) => (Pz.bindM (Pz.bindM (pureM y5.1) fun (x21 : Int) => (Pz.bindM (pureM ()) fun (x22 : Unit) => pureM (x21, x22))) fun (x24 : (Int × Unit)) => pureM (x23, x24))) fun (x25 : (Str × Int × Unit)) => pureM ((eP (eC eStr (eC eInt eU))) x25)) (fun (x26 : PyData) => pureM (Out.rt x26)) else (pureM (Out.nx ())))) x27 ()) fun o => caseO o (fun (r28 : Unit) => (Pz.bindM (Pz.bindM (Pz.bindM (pureM v_rows) fun (x29 : (List (Option Int))) => pureM (enumL x29)) fun (x55 : (List (Int × (Option Int) × Unit))) => forO (fun (b31 : Unit) (y30 : (Int × (Option Int) × Unit)) => (Pz.bindM (Pz.bindM (Pz.bindM (pureM v_lines) fun (x35 : (List (List Int))) => (Pz.bindM (Pz.bindM (pureM r1) fun (x33 : (List (List Int))) => (Pz.bindM (pureM y30.1) fun (x34 : Int) => optM (atI x33 x34))) fun (x36 : (List Int)) => m_lines_through x35 x36)) fun (x41 : (List Int)) => compM (fun (y37 : Int) => (Pz.bindM (Pz.bindM (pureM y37) fun (x38 : Int) => pureM (some x38)) fun (x39 : (Option Int)) => (Pz.bindM (pureM y30.2.1) fun (x40 : (Option Int)) => pureM (!decide (x39 = x40))))) (fun (y37 : Int) => (pureM y37)) x41) fun (r32 : (List Int)) => (Pz.bindM (Pz.bindM (pureM r32) fun (x42 : (List Int)) => (Pz.bindM (smallM (pureM ([] : List Int))) fun (x43 : (List Int)) => pureM (!decide (x42 = x43)))) fun (x44 : Bool) => if x44 then Pz.bindM (Pz.bindM (Pz.bindM (pureM ("more" : Str)) fun (x51 : Str) => (Pz.bindM (Pz.bindM (pureM y30.1) fun (x49 : Int) => (Pz.bindM (Pz.bindM (Pz.bindM (pureM r32) fun (x45 : (List Int)) => (Pz.bindM (pureM (0 : Int)) fun (x46 : Int) => optM (atI x45 x46))) fun (x47 : Int) => (Pz.bindM (pureM ()) fun (x48 : Unit) => pureM (x47, x48))) fun (x50 : (Int × Unit)) => pureM (x49, x50))) fun (x52 : (Int × (Int × Unit))) => pureM (x51, x52))) fun (x53 : (Str × Int × Int × Unit)) => pureM ((eP (eC eStr (eC eInt (eC eInt eU)))) x53)) (fun (x54 : PyData) => pureM (Out.rt x54)) else (pureM (Out.nx ()))))) x55 ()) fun o => caseO o (fun (r56 : Unit) => (Pz.bindM (pureM ()) fun (x57 : Unit) => pureM (eNon x57))) pureM)) pureM))
theorem ok_pairs_fault {f : Addr} {fd : FuncData} (F : Fun K "pairs_fault" "pairs_fault" s_pairs_fault f fd) (B : Bl mg)
    {f_some_lots : Addr} {d_some_lots : FuncData} (C_some_lots : Cal K mg "some_lots" f_some_lots d_some_lots ["m", "s"]) (F_some_lots : FnG P w K mg base 1 f_some_lots d_some_lots ["m", "s"] (SpM (fun p : Int × Int × Unit => [.fz (eInt p.1), .fz (eInt p.2.1)]) (eL (eT eInt)) (fun p : Int × Int × Unit => m_some_lots p.1 p.2.1)))
    {f_lines_through : Addr} {d_lines_through : FuncData} (C_lines_through : Cal K mg "lines_through" f_lines_through d_lines_through ["lines", "lot"]) (F_lines_through : FnG P w K mg base 1 f_lines_through d_lines_through ["lines", "lot"] (SpM (fun p : (List (List Int)) × (List Int) × Unit => [.fz ((eT (eT eInt)) p.1), .fz ((eT eInt) p.2.1)]) (eL eInt) (fun p : (List (List Int)) × (List Int) × Unit => m_lines_through p.1 p.2.1))) :
    FnG P w K mg base 2 f fd ["lines", "m", "rows"] (SpM (fun p : (List (List Int)) × Int × (List (Option Int)) × Unit => [.fz ((eT (eT eInt)) p.1), .fz (eInt p.2.1), .fz ((eT (eO eInt)) p.2.2.1)]) eD (fun p : (List (List Int)) × Int × (List (Option Int)) × Unit => m_pairs_fault p.1 p.2.1 p.2.2.1)) := by
  refine g_ok F sc_pairs_fault (fun p : (List (List Int)) × Int × (List (Option Int)) × Unit => [.fz ((eT (eT eInt)) p.1), .fz (eInt p.2.1), .fz ((eT (eO eInt)) p.2.2.1)]) eD (fun p : (List (List Int)) × Int × (List (Option Int)) × Unit => m_pairs_fault p.1 p.2.1 p.2.2.1) (fun p => [.fz ((eT (eT eInt)) p.1), .fz (eInt p.2.1), .fz ((eT (eO eInt)) p.2.2.1), .un, .un, .un, .un, .un, .un]) (fun _ => rfl) (fun _ => rfl) ?_
  intro cdv A above s H E R p hG hr
  obtain ⟨v_lines, v_m, v_rows, uu⟩ := p
  have sc := sc_pairs_fault
  exact (s_step (Γ1 := fun (r1 : (List (List Int))) => [.fz ((eT (eT eInt)) v_lines), .fz (eInt v_m), .fz ((eT (eO eInt)) v_rows), .fz ((eL (eT eInt)) r1), .un, .un, .un, .un, .un]) (q_set 3 (e_c2 (F_some_lots.mono (by decide)) hG hr C_some_lots.mg C_some_lots.kp C_some_lots.bd (e_var 1 eInt v_m) e_int) sc.nd) (fun (r1 : (List (List Int))) => (s_step1 (er := eD) (Γ1 := (fun (b : Unit) => [.fz ((eT (eT eInt)) v_lines), .fz (eInt v_m), .fz ((eT (eO eInt)) v_rows), .fz ((eL (eT eInt)) r1), .un, .un, .un, .un, .un])) (q_forO (er := eD) (set := (st2 4 eInt 5 (eO eInt))) (is := [4, 5]) (fun (b : Unit) => [.fz ((eT (eT eInt)) v_lines), .fz (eInt v_m), .fz ((eT (eO eInt)) v_rows), .fz ((eL (eT eInt)) r1), .un, .un, .un, .un, .un]) () (fun (b6 : Unit) (y5 : (Int × (Option Int) × Unit)) => (Pz.bindM (Pz.bindM (Pz.bindM (pureM y5.2.1) fun (x7 : (Option Int)) => pureM x7.isSome) fun (x19 : Bool) => if x19 then (Pz.bindM (Pz.bindM (Pz.bindM (Pz.bindM (pureM r1) fun (x8 : (List (List Int))) => (Pz.bindM (pureM y5.1) fun (x9 : Int) => optM (atI x8 x9))) fun (x16 : (List Int)) => compM (fun (y10 : Int) => (pureM true)) (fun (y10 : Int) => (Pz.bindM (pureM y10) fun (x14 : Int) => (Pz.bindM (Pz.bindM (pureM v_lines) fun (x12 : (List (List Int))) => (Pz.bindM (Pz.bindM (pureM y5.2.1) fun (x11 : (Option Int)) => optM x11) fun (x13 : Int) => optM (atI x12 x13))) fun (x15 : (List Int)) => pureM (decide (x14 ∈ x15))))) x16) fun (x17 : (List Bool)) => optM (some (x17.all id))) fun (x18 : Bool) => pureM (!x18)) else pureM false) fun (x20 : Bool) => if x20 then Pz.bindM (Pz.bindM (Pz.bindM (pureM ("off" : Str)) fun (x23 : Str) => (Pz.bindM (Pz.bindM (pureM y5.1) fun (x21 : Int) => (Pz.bindM (pureM ()) fun (x22 : Unit) => pureM (x21, x22))) fun (x24 : (Int × Unit)) => pureM (x23, x24))) fun (x25 : (Str × Int × Unit)) => pureM ((eP (eC eStr (eC eInt eU))) x25)) (fun (x26 : PyData) => pureM (Out.rt x26)) else (pureM (Out.nx ())))) PassesOwn.never rfl (i_enumT B.b_enumerate (e_var 2 (eT (eO eInt)) v_rows)) (g2 4 5 eInt (eO eInt) rfl sc.nd) noow2 (.eq (.eq (.eq (.eq (.un (.un (.un (.un (.un .nil))))))))) (fun (b6 : Unit) (y5 : (Int × (Option Int) × Unit)) => (s_ifret2 (Γb := (fun (b : Unit) => [.fz ((eT (eT eInt)) v_lines), .fz (eInt v_m), .fz ((eT (eO eInt)) v_rows), .fz ((eL (eT eInt)) r1), .un, .un, .un, .un, .un])) (w_t (w_and (t_notN NN.int (e_var 5 (eO eInt) y5.2.1)) (w_and1 (t_not (t_val (e_b1 (ea := (eL eBool)) (ec := eBool) (f := fun x => some (x.all id)) (cr_all rfl) v_all B.b_all bt_all (f_e (f_lc (set := (st1 7 eInt)) (is := [7]) [("x", 7)] (fun (y10 : Int) => (pureM true)) (fun (y10 : Int) => (Pz.bindM (pureM y10) fun (x14 : Int) => (Pz.bindM (Pz.bindM (pureM v_lines) fun (x12 : (List (List Int))) => (Pz.bindM (Pz.bindM (pureM y5.2.1) fun (x11 : (Option Int)) => optM x11) fun (x13 : Int) => optM (atI x12 x13))) fun (x15 : (List Int)) => pureM (decide (x14 ∈ x15))))) rfl sc.nd (i_tup (e_ixL (e_var 3 (eL (eT eInt)) r1) (e_var 4 eInt y5.1))) (blkOk_by (N := N_pairs_fault) (sc := (defScope s_pairs_fault)) (by decide +kernel)) (fun _ _ _ _ _ => (g1 7 eInt sc.nd)) (fun _ _ _ _ _ (y10 : Int) => c_nil) (fun _ _ _ _ _ (y10 : Int) => (e_inT (n := 0) hr Dc.int (e_var 7 eInt y10) (e_ixT (e_var 0 (eT (eT eInt)) v_lines) (e_some (e_var 5 (eO eInt) y5.2.1))))) noow1 sm1 (fun _ h => h) (noOw rfl))))))))) (s_ret0 (e_enc (eb := eD) (fun x => (eP (eC eStr (eC eInt eU))) x) (e_tup (eC eStr (eC eInt eU)) (a_cons e_str (a_cons (e_var 4 eInt y5.1) a_nil)) (hl := fun _ => (by decide : 2 ≤ sizeLine))) (fun _ => rfl))) (s_nilO (Γb := (fun (b : Unit) => [.fz ((eT (eT eInt)) v_lines), .fz (eInt v_m), .fz ((eT (eO eInt)) v_rows), .fz ((eL (eT eInt)) r1), .un, .un, .un, .un, .un])) () (.eq (.eq (.eq (.eq (.un (.un (.un (.un (.un .nil))))))))))))) (fun (r28 : Unit) => (s_step1 (er := eD) (Γ1 := (fun (b : Unit) => [.fz ((eT (eT eInt)) v_lines), .fz (eInt v_m), .fz ((eT (eO eInt)) v_rows), .fz ((eL (eT eInt)) r1), .un, .un, .un, .un, .un])) (q_forO (er := eD) (set := (st2 4 eInt 5 (eO eInt))) (is := [4, 5]) (fun (b : Unit) => [.fz ((eT (eT eInt)) v_lines), .fz (eInt v_m), .fz ((eT (eO eInt)) v_rows), .fz ((eL (eT eInt)) r1), .un, .un, .un, .un, .un]) () (fun (b31 : Unit) (y30 : (Int × (Option Int) × Unit)) => (Pz.bindM (Pz.bindM (Pz.bindM (pureM v_lines) fun (x35 : (List (List Int))) => (Pz.bindM (Pz.bindM (pureM r1) fun (x33 : (List (List Int))) => (Pz.bindM (pureM y30.1) fun (x34 : Int) => optM (atI x33 x34))) fun (x36 : (List Int)) => m_lines_through x35 x36)) fun (x41 : (List Int)) => compM (fun (y37 : Int) => (Pz.bindM (Pz.bindM (pureM y37) fun (x38 : Int) => pureM (some x38)) fun (x39 : (Option Int)) => (Pz.bindM (pureM y30.2.1) fun (x40 : (Option Int)) => pureM (!decide (x39 = x40))))) (fun (y37 : Int) => (pureM y37)) x41) fun (r32 : (List Int)) => (Pz.bindM (Pz.bindM (pureM r32) fun (x42 : (List Int)) => (Pz.bindM (smallM (pureM ([] : List Int))) fun (x43 : (List Int)) => pureM (!decide (x42 = x43)))) fun (x44 : Bool) => if x44 then Pz.bindM (Pz.bindM (Pz.bindM (pureM ("more" : Str)) fun (x51 : Str) => (Pz.bindM (Pz.bindM (pureM y30.1) fun (x49 : Int) => (Pz.bindM (Pz.bindM (Pz.bindM (pureM r32) fun (x45 : (List Int)) => (Pz.bindM (pureM (0 : Int)) fun (x46 : Int) => optM (atI x45 x46))) fun (x47 : Int) => (Pz.bindM (pureM ()) fun (x48 : Unit) => pureM (x47, x48))) fun (x50 : (Int × Unit)) => pureM (x49, x50))) fun (x52 : (Int × (Int × Unit))) => pureM (x51, x52))) fun (x53 : (Str × Int × Int × Unit)) => pureM ((eP (eC eStr (eC eInt (eC eInt eU)))) x53)) (fun (x54 : PyData) => pureM (Out.rt x54)) else (pureM (Out.nx ()))))) PassesOwn.never rfl (i_enumT B.b_enumerate (e_var 2 (eT (eO eInt)) v_rows)) (g2 4 5 eInt (eO eInt) rfl sc.nd) noow2 (.eq (.eq (.eq (.eq (.un (.un (.un (.un (.un .nil))))))))) (fun (b31 : Unit) (y30 : (Int × (Option Int) × Unit)) => (s_step (Γ1 := fun (r32 : (List Int)) => [.fz ((eT (eT eInt)) v_lines), .fz (eInt v_m), .fz ((eT (eO eInt)) v_rows), .fz ((eL (eT eInt)) r1), .fz (eInt y30.1), .fz ((eO eInt) y30.2.1), .fz ((eL eInt) r32), .un, .un]) (q_setLcE 6 (set := (st1 8 eInt)) (is := [8]) [("s", 8)] (fun (y37 : Int) => (Pz.bindM (Pz.bindM (pureM y37) fun (x38 : Int) => pureM (some x38)) fun (x39 : (Option Int)) => (Pz.bindM (pureM y30.2.1) fun (x40 : (Option Int)) => pureM (!decide (x39 = x40))))) (fun (y37 : Int) => (pureM y37)) rfl sc.nd (sw_true rfl rfl rfl (by decide +kernel)) (i_list (e_c2 (F_lines_through.mono (by decide)) hG hr C_lines_through.mg C_lines_through.kp C_lines_through.bd (e_var 0 (eT (eT eInt)) v_lines) (e_ixL (e_var 3 (eL (eT eInt)) r1) (e_var 4 eInt y30.1)))) (blkOk_by (N := N_pairs_fault) (sc := (defScope s_pairs_fault)) (by decide +kernel)) (fun _ _ _ _ _ => (g1 8 eInt sc.nd)) (fun _ _ _ _ _ (y37 : Int) => (c_one (t_neP (n := 0) hr (Dc.opt NN.int Dc.int) (e_enc (eb := (eO eInt)) some (e_var 8 eInt y37) (fun _ => rfl)) (e_var 5 (eO eInt) y30.2.1)))) (fun _ _ _ _ _ (y37 : Int) => (e_var 8 eInt y37)) noow1 sm1 (fun _ h => h) (noOw rfl)) (fun (r32 : (List Int)) => (s_ifret2 (Γb := (fun (b : Unit) => [.fz ((eT (eT eInt)) v_lines), .fz (eInt v_m), .fz ((eT (eO eInt)) v_rows), .fz ((eL (eT eInt)) r1), .un, .un, .un, .un, .un])) (t_neP (n := 1) hr (Dc.lst Dc.int) (e_var 6 (eL eInt) r32) (f_e (f_list l_nil))) (s_ret0 (e_enc (eb := eD) (fun x => (eP (eC eStr (eC eInt (eC eInt eU)))) x) (e_tup (eC eStr (eC eInt (eC eInt eU))) (a_cons e_str (a_cons (e_var 4 eInt y30.1) (a_cons (e_ixL (e_var 6 (eL eInt) r32) e_int) a_nil))) (hl := fun _ => (by decide : 3 ≤ sizeLine))) (fun _ => rfl))) (s_nilO (Γb := (fun (b : Unit) => [.fz ((eT (eT eInt)) v_lines), .fz (eInt v_m), .fz ((eT (eO eInt)) v_rows), .fz ((eL (eT eInt)) r1), .un, .un, .un, .un, .un])) () (.eq (.eq (.eq (.eq (.un (.un (.un (.un (.un .nil))))))))))))))) (fun (r56 : Unit) => (s_ret0 (e_enc (eb := eD) (fun x => eNon x) e_non (fun _ => rfl)))))))))

abbrev s_judge_ring : Stmt := topS 12
def N_judge_ring : List Str := ["lines", "m", "value"]
theorem sc_judge_ring : FnScope N_judge_ring ["lines", "m", "value"] (defScope s_judge_ring) := ⟨rfl, rfl, rfl, by decide +kernel, rfl, by decide +kernel, by decide +kernel⟩
def m_judge_ring (v_lines : (List (List Int))) (v_m : Int) (v_value : PyData) : M PyData := (Pz.bindM (Pz.bindM (Pz.bindM (Pz.bindM (pureM v_lines) fun (x1 : (List (List Int))) => pureM (x1.length : Int)) fun (x2 : Int) => (Pz.bindM (pureM v_m) fun (x3 : Int) => (Pz.bindM (pureM v_value) fun (x4 : PyData) => m_is_ring_form x2 x3 x4))) fun (x5 : Bool) => pureM (!x5)) fun (x6 : Bool) => if x6 then (Pz.bindM (Pz.bindM (pureM ("form" : Str)) fun (x7 : Str) => (Pz.bindM (pureM ()) fun (x8 : Unit) => pureM (x7, x8))) fun (x9 : (Str × Unit)) => pureM ((eP (eC eStr eU)) x9)) else (Pz.bindM (Pz.bindM (Pz.bindM (Pz.bindM (pureM v_value) fun (x10 : PyData) => optM (asTup x10)) fun (x11 : (List PyData)) => (Pz.bindM (pureM (0 : Int)) fun (x12 : Int) => optM (atI x11 x12))) fun (x13 : PyData) => (Pz.bindM (pureM ("ring" : Str)) fun (x14 : Str) => optM (eqZ (eD x13) (eStr x14)))) fun (x15 : Bool) => if x15 then (Pz.bindM (pureM v_lines) fun (x32 : (List (List Int))) => (Pz.bindM (Pz.bindM (Pz.bindM (Pz.bindM (pureM v_value) fun (x16 : PyData) => optM (asTup x16)) fun (x17 : (List PyData)) => (Pz.bindM (pureM (1 : Int)) fun (x18 : Int) => optM (atI x17 x18))) fun (x19 : PyData) => optM (asInt x19)) fun (x33 : Int) => (Pz.bindM (Pz.bindM (Pz.bindM (Pz.bindM (pureM v_value) fun (x20 : PyData) => optM (asTup x20)) fun (x21 : (List PyData)) => (Pz.bindM (pureM (2 : Int)) fun (x22 : Int) => optM (atI x21 x22))) fun (x23 : PyData) => optM (asInt x23)) fun (x34 : Int) => (Pz.bindM (Pz.bindM (Pz.bindM (Pz.bindM (pureM v_value) fun (x24 : PyData) => optM (asTup x24)) fun (x25 : (List PyData)) => (Pz.bindM (pureM (3 : Int)) fun (x26 : Int) => optM (atI x25 x26))) fun (x27 : PyData) => optM (asInt x27)) fun (x35 : Int) => (Pz.bindM (Pz.bindM (Pz.bindM (Pz.bindM (pureM v_value) fun (x28 : PyData) => optM (asTup x28)) fun (x29 : (List PyData)) => (Pz.bindM (pureM (4 : Int)) fun (x30 : Int) => optM (atI x29 x30))) fun (x31 : PyData) => optM (asInt x31)) fun (x36 : Int) => m_ring_fault x32 x33 x34 x35 x36))))) else (Pz.bindM (pureM v_lines) fun (x42 : (List (List Int))) => (Pz.bindM (pureM v_m) fun (x43 : Int) => (Pz.bindM (Pz.bindM (Pz.bindM (Pz.bindM (Pz.bindM (pureM v_value) fun (x37 : PyData) => optM (asTup x37)) fun (x38 : (List PyData)) => (Pz.bindM (pureM (1 : Int)) fun (x39 : Int) => optM (atI x38 x39))) fun (x40 : PyData) => optM (asTup x40)) fun (x41 : (List PyData)) => optM (x41.mapM asOI)) fun (x44 : (List (Option Int))) => m_pairs_fault x42 x43 x44)))))
theorem ok_judge_ring {f : Addr} {fd : FuncData} (F : Fun K "judge_ring" "judge_ring" s_judge_ring f fd) (B : Bl mg)
    {f_is_ring_form : Addr} {d_is_ring_form : FuncData} (C_is_ring_form : Cal K mg "is_ring_form" f_is_ring_form d_is_ring_form ["n", "m", "value"]) (F_is_ring_form : FnG P w K mg base 2 f_is_ring_form d_is_ring_form ["n", "m", "value"] (SpM (fun p : Int × Int × PyData × Unit => [.fz (eInt p.1), .fz (eInt p.2.1), .fz (eD p.2.2.1)]) eBool (fun p : Int × Int × PyData × Unit => m_is_ring_form p.1 p.2.1 p.2.2.1)))
    {f_ring_fault : Addr} {d_ring_fault : FuncData} (C_ring_fault : Cal K mg "ring_fault" f_ring_fault d_ring_fault ["lines", "r", "s", "c", "d"]) (F_ring_fault : FnG P w K mg base 1 f_ring_fault d_ring_fault ["lines", "r", "s", "c", "d"] (SpM (fun p : (List (List Int)) × Int × Int × Int × Int × Unit => [.fz ((eT (eT eInt)) p.1), .fz (eInt p.2.1), .fz (eInt p.2.2.1), .fz (eInt p.2.2.2.1), .fz (eInt p.2.2.2.2.1)]) eD (fun p : (List (List Int)) × Int × Int × Int × Int × Unit => m_ring_fault p.1 p.2.1 p.2.2.1 p.2.2.2.1 p.2.2.2.2.1)))
    {f_pairs_fault : Addr} {d_pairs_fault : FuncData} (C_pairs_fault : Cal K mg "pairs_fault" f_pairs_fault d_pairs_fault ["lines", "m", "rows"]) (F_pairs_fault : FnG P w K mg base 2 f_pairs_fault d_pairs_fault ["lines", "m", "rows"] (SpM (fun p : (List (List Int)) × Int × (List (Option Int)) × Unit => [.fz ((eT (eT eInt)) p.1), .fz (eInt p.2.1), .fz ((eT (eO eInt)) p.2.2.1)]) eD (fun p : (List (List Int)) × Int × (List (Option Int)) × Unit => m_pairs_fault p.1 p.2.1 p.2.2.1))) :
    FnG P w K mg base 3 f fd ["lines", "m", "value"] (SpM (fun p : (List (List Int)) × Int × PyData × Unit => [.fz ((eT (eT eInt)) p.1), .fz (eInt p.2.1), .fz (eD p.2.2.1)]) eD (fun p : (List (List Int)) × Int × PyData × Unit => m_judge_ring p.1 p.2.1 p.2.2.1)) := by
  refine g_ok F sc_judge_ring (fun p : (List (List Int)) × Int × PyData × Unit => [.fz ((eT (eT eInt)) p.1), .fz (eInt p.2.1), .fz (eD p.2.2.1)]) eD (fun p : (List (List Int)) × Int × PyData × Unit => m_judge_ring p.1 p.2.1 p.2.2.1) (fun p => [.fz ((eT (eT eInt)) p.1), .fz (eInt p.2.1), .fz (eD p.2.2.1)]) (fun _ => rfl) (fun _ => rfl) ?_
  intro cdv A above s H E R p hG hr
  obtain ⟨v_lines, v_m, v_value, uu⟩ := p
  have sc := sc_judge_ring
  exact (s_ifret1 (t_not (t_val (e_c3 (F_is_ring_form.mono (by decide)) hG hr C_is_ring_form.mg C_is_ring_form.kp C_is_ring_form.bd (e_lenT B.b_len bt_len (e_var 0 (eT (eT eInt)) v_lines)) (e_var 1 eInt v_m) (e_var 2 eD v_value)))) (s_ret0 (e_enc (eb := eD) (fun x => (eP (eC eStr eU)) x) (e_tup (eC eStr eU) (a_cons e_str a_nil) (hl := fun _ => (by decide : 1 ≤ sizeLine))) (fun _ => rfl))) (s_ifret1 (t_eqZ hr (e_ixT (e_dTup (e_var 2 eD v_value)) e_int) e_str) (s_ret0 (e_c5 (F_ring_fault.mono (by decide)) hG hr C_ring_fault.mg C_ring_fault.kp C_ring_fault.bd (e_var 0 (eT (eT eInt)) v_lines) (e_dInt (e_ixT (e_dTup (e_var 2 eD v_value)) e_int)) (e_dInt (e_ixT (e_dTup (e_var 2 eD v_value)) e_int)) (e_dInt (e_ixT (e_dTup (e_var 2 eD v_value)) e_int)) (e_dInt (e_ixT (e_dTup (e_var 2 eD v_value)) e_int)))) (s_ret0 (e_c3 (F_pairs_fault.mono (by decide)) hG hr C_pairs_fault.mg C_pairs_fault.kp C_pairs_fault.bd (e_var 0 (eT (eT eInt)) v_lines) (e_var 1 eInt v_m) (e_dTupAs asOI asOI_eq (e_dTup (e_ixT (e_dTup (e_var 2 eD v_value)) e_int)))))))

abbrev s__law_some : Stmt := topS 16
def N__law_some : List Str := ["m", "s", "found", "x", "lot"]
theorem sc__law_some : FnScope N__law_some ["m", "s"] (defScope s__law_some) := ⟨rfl, rfl, rfl, by decide +kernel, rfl, by decide +kernel, by decide +kernel⟩
def m__law_some (v_m : Int) (v_s : Int) : M (List (List Int)) := (Pz.bindM (smallM (Pz.bindM (smallM (pureM ([] : List Int))) fun (x2 : (List Int)) => (Pz.bindM (pureM ([] : List (List Int))) fun (x3 : (List (List Int))) => pureM (x2 :: x3)))) fun (r1 : (List (List Int))) => (Pz.bindM (Pz.bindM (Pz.bindM (pureM v_m) fun (x4 : Int) => rangeM 0 x4) fun (x20 : (List Int)) => forM' (fun (b6 : ((List (List Int)))) (y5 : Int) => (Pz.bindM (Pz.bindM (pureM b6) fun (x18 : (List (List Int))) => (Pz.bindM (Pz.bindM (pureM b6) fun (x17 : (List (List Int))) => compM (fun (y8 : (List Int)) => (Pz.bindM (Pz.bindM (pureM y8) fun (x9 : (List Int)) => pureM (x9.length : Int)) fun (x10 : Int) => (Pz.bindM (pureM v_s) fun (x11 : Int) => pureM (decide (x10 < x11))))) (fun (y8 : (List Int)) => (Pz.bindM (pureM y8) fun (x15 : (List Int)) => (Pz.bindM (Pz.bindM (Pz.bindM (pureM y5) fun (x12 : Int) => (Pz.bindM (pureM ()) fun (x13 : Unit) => pureM (x12, x13))) fun (x14 : (Int × Unit)) => pureM ((fun p : (Int × Unit) => [p.1]) x14)) fun (x16 : (List Int)) => optM (catO x15 x16)))) x17) fun (x19 : (List (List Int))) => optM (catO x18 x19))) fun (r7 : (List (List Int))) => (pureM r7))) x20 r1) fun (r21 : ((List (List Int)))) => (Pz.bindM (Pz.bindM (pureM r21) fun (x26 : (List (List Int))) => compM (fun (y22 : (List Int)) => (Pz.bindM (Pz.bindM (pureM y22) fun (x23 : (List Int)) => pureM (x23.length : Int)) fun (x24 : Int) => (Pz.bindM (pureM v_s) fun (x25 : Int) => pureM (decide (x24 = x25))))) (fun (y22 : (List Int)) => (pureM y22)) x26) fun (x27 : (List (List Int))) => optM (some (srt (eT eInt) x27)))))
theorem ok__law_some {f : Addr} {fd : FuncData} (F : Fun K "_law_some" "_law_some" s__law_some f fd) (B : Bl mg) :
    FnG P w K mg base 1 f fd ["m", "s"] (SpM (fun p : Int × Int × Unit => [.fz (eInt p.1), .fz (eInt p.2.1)]) (eL (eT eInt)) (fun p : Int × Int × Unit => m__law_some p.1 p.2.1)) := by
  refine g_ok F sc__law_some (fun p : Int × Int × Unit => [.fz (eInt p.1), .fz (eInt p.2.1)]) (eL (eT eInt)) (fun p : Int × Int × Unit => m__law_some p.1 p.2.1) (fun p => [.fz (eInt p.1), .fz (eInt p.2.1), .un, .un, .un]) (fun _ => rfl) (fun _ => rfl) ?_
  intro cdv A above s H E R p hG hr
  obtain ⟨v_m, v_s, uu⟩ := p
  have sc := sc__law_some
  exact (s_step (Γ1 := fun (r1 : (List (List Int))) => [.fz (eInt v_m), .fz (eInt v_s), .fz ((eL (eT eInt)) r1), .un, .un]) (q_set 2 (f_e (f_list (l_cons (e_tupl l_nil) l_nil))) sc.nd) (fun (r1 : (List (List Int))) => (s_step (Γ1 := (fun (b : ((List (List Int)))) => [.fz (eInt v_m), .fz (eInt v_s), .fz ((eL (eT eInt)) b), .un, .un])) (q_for (set := (st1 3 eInt)) (is := [3]) (fun (b : ((List (List Int)))) => [.fz (eInt v_m), .fz (eInt v_s), .fz ((eL (eT eInt)) b), .un, .un]) r1 (fun (b6 : ((List (List Int)))) (y5 : Int) => (Pz.bindM (Pz.bindM (pureM b6) fun (x18 : (List (List Int))) => (Pz.bindM (Pz.bindM (pureM b6) fun (x17 : (List (List Int))) => compM (fun (y8 : (List Int)) => (Pz.bindM (Pz.bindM (pureM y8) fun (x9 : (List Int)) => pureM (x9.length : Int)) fun (x10 : Int) => (Pz.bindM (pureM v_s) fun (x11 : Int) => pureM (decide (x10 < x11))))) (fun (y8 : (List Int)) => (Pz.bindM (pureM y8) fun (x15 : (List Int)) => (Pz.bindM (Pz.bindM (Pz.bindM (pureM y5) fun (x12 : Int) => (Pz.bindM (pureM ()) fun (x13 : Unit) => pureM (x12, x13))) fun (x14 : (Int × Unit)) => pureM ((fun p : (Int × Unit) => [p.1]) x14)) fun (x16 : (List Int)) => optM (catO x15 x16)))) x17) fun (x19 : (List (List Int))) => optM (catO x18 x19))) fun (r7 : (List (List Int))) => (pureM r7))) PassesOwn.never rfl (i_range1 B.b_range (e_var 0 eInt v_m)) (g1 3 eInt sc.nd) noow1 (.eq (.eq (.eq (.un (.un .nil))))) (fun (b6 : ((List (List Int)))) (y5 : Int) => (s_step (Γ1 := fun (r7 : (List (List Int))) => [.fz (eInt v_m), .fz (eInt v_s), .fz ((eL (eT eInt)) r7), .fz (eInt y5), .un]) (q_set 2 (f_e (f_catL (e_var 2 (eL (eT eInt)) b6) (f_e (f_lc (set := (st1 4 (eT eInt))) (is := [4]) [("lot", 4)] (fun (y8 : (List Int)) => (Pz.bindM (Pz.bindM (pureM y8) fun (x9 : (List Int)) => pureM (x9.length : Int)) fun (x10 : Int) => (Pz.bindM (pureM v_s) fun (x11 : Int) => pureM (decide (x10 < x11))))) (fun (y8 : (List Int)) => (Pz.bindM (pureM y8) fun (x15 : (List Int)) => (Pz.bindM (Pz.bindM (Pz.bindM (pureM y5) fun (x12 : Int) => (Pz.bindM (pureM ()) fun (x13 : Unit) => pureM (x12, x13))) fun (x14 : (Int × Unit)) => pureM ((fun p : (Int × Unit) => [p.1]) x14)) fun (x16 : (List Int)) => optM (catO x15 x16)))) rfl sc.nd (i_list (e_var 2 (eL (eT eInt)) b6)) (blkOk_by (N := N__law_some) (sc := (defScope s__law_some)) (by decide +kernel)) (fun _ _ _ _ _ => (g1 4 (eT eInt) sc.nd)) (fun _ _ _ _ _ (y8 : (List Int)) => (c_one (t_lt (e_lenT B.b_len bt_len (e_var 4 (eT eInt) y8)) (e_var 1 eInt v_s)))) (fun _ _ _ _ _ (y8 : (List Int)) => (e_catT (e_var 4 (eT eInt) y8) (e_enc (eb := (eT eInt)) (fun p : (Int × Unit) => [p.1]) (e_tup (eC eInt eU) (a_cons (e_var 3 eInt y5) a_nil) (hl := fun _ => (by decide : 1 ≤ sizeLine))) (fun _ => rfl)))) noow1 sm1 (fun _ h => h) (noOw rfl))))) sc.nd) (fun (r7 : (List (List Int))) => (s_nilN (Γb := (fun (b : ((List (List Int)))) => [.fz (eInt v_m), .fz (eInt v_s), .fz ((eL (eT eInt)) b), .un, .un])) r7 (.eq (.eq (.eq (.un (.un .nil)))))))))) (fun (r21 : ((List (List Int)))) => (s_ret0 (f_e (f_b1 (ea := (eL (eT eInt))) (ec := (eT eInt)) (f := fun x => some (srt (eT eInt) x)) (call_sortA SrtA.rows hr.units) v_sortAL B.b_sorted bt_sorted (f_e (f_lc (set := (st1 4 (eT eInt))) (is := [4]) [("lot", 4)] (fun (y22 : (List Int)) => (Pz.bindM (Pz.bindM (pureM y22) fun (x23 : (List Int)) => pureM (x23.length : Int)) fun (x24 : Int) => (Pz.bindM (pureM v_s) fun (x25 : Int) => pureM (decide (x24 = x25))))) (fun (y22 : (List Int)) => (pureM y22)) rfl sc.nd (i_list (e_var 2 (eL (eT eInt)) r21)) (blkOk_by (N := N__law_some) (sc := (defScope s__law_some)) (by decide +kernel)) (fun _ _ _ _ _ => (g1 4 (eT eInt) sc.nd)) (fun _ _ _ _ _ (y22 : (List Int)) => (c_one (t_eqI (e_lenT B.b_len bt_len (e_var 4 (eT eInt) y22)) (e_var 1 eInt v_s)))) (fun _ _ _ _ _ (y22 : (List Int)) => (e_var 4 (eT eInt) y22)) noow1 sm1 (fun _ h => h) (noOw rfl))))))))))

abbrev s__law_both : Stmt := topS 17
def N__law_both : List Str := ["one", "other", "x"]
theorem sc__law_both : FnScope N__law_both ["one", "other"] (defScope s__law_both) := ⟨rfl, rfl, rfl, by decide +kernel, rfl, by decide +kernel, by decide +kernel⟩
def m__law_both (v_one : (List Int)) (v_other : (List Int)) : M (List Int) := (Pz.bindM (Pz.bindM (pureM v_one) fun (x4 : (List Int)) => compM (fun (y1 : Int) => (Pz.bindM (pureM y1) fun (x2 : Int) => (Pz.bindM (pureM v_other) fun (x3 : (List Int)) => pureM (decide (x2 ∈ x3))))) (fun (y1 : Int) => (pureM y1)) x4) fun (x5 : (List Int)) => optM (some x5))
theorem ok__law_both {f : Addr} {fd : FuncData} (F : Fun K "_law_both" "_law_both" s__law_both f fd) (B : Bl mg) :
    FnG P w K mg base 1 f fd ["one", "other"] (SpM (fun p : (List Int) × (List Int) × Unit => [.fz ((eT eInt) p.1), .fz ((eT eInt) p.2.1)]) (eT eInt) (fun p : (List Int) × (List Int) × Unit => m__law_both p.1 p.2.1)) := by
  refine g_ok F sc__law_both (fun p : (List Int) × (List Int) × Unit => [.fz ((eT eInt) p.1), .fz ((eT eInt) p.2.1)]) (eT eInt) (fun p : (List Int) × (List Int) × Unit => m__law_both p.1 p.2.1) (fun p => [.fz ((eT eInt) p.1), .fz ((eT eInt) p.2.1), .un]) (fun _ => rfl) (fun _ => rfl) ?_
  intro cdv A above s H E R p hG hr
  obtain ⟨v_one, v_other, uu⟩ := p
  have sc := sc__law_both
  exact (s_ret0 (e_t1 (ea := (eL eInt)) (ec := (eT eInt)) (f := fun x => some x) call_tuple_of v_tupL B.b_tuple bt_tuple (f_e (f_lc (set := (st1 2 eInt)) (is := [2]) [("x", 2)] (fun (y1 : Int) => (Pz.bindM (pureM y1) fun (x2 : Int) => (Pz.bindM (pureM v_other) fun (x3 : (List Int)) => pureM (decide (x2 ∈ x3))))) (fun (y1 : Int) => (pureM y1)) rfl sc.nd (i_tup (e_var 0 (eT eInt) v_one)) (blkOk_by (N := N__law_both) (sc := (defScope s__law_both)) (by decide +kernel)) (fun _ _ _ _ _ => (g1 2 eInt sc.nd)) (fun _ _ _ _ _ (y1 : Int) => (c_one (t_inT (n := 0) hr Dc.int (e_var 2 eInt y1) (e_var 1 (eT eInt) v_other)))) (fun _ _ _ _ _ (y1 : Int) => (e_var 2 eInt y1)) noow1 sm1 (fun _ h => h) (noOw rfl)))))

abbrev s__law_is_open : Stmt := topS 18
def N__law_is_open : List Str := ["lines", "r", "s"]
theorem sc__law_is_open : FnScope N__law_is_open ["lines"] (defScope s__law_is_open) := ⟨rfl, rfl, rfl, by decide +kernel, rfl, by decide +kernel, by decide +kernel⟩
def m__law_is_open (v_lines : (List (List Int))) : M Bool := (Pz.bindM (Pz.bindM (Pz.bindM (Pz.bindM (pureM v_lines) fun (x1 : (List (List Int))) => pureM (x1.length : Int)) fun (x2 : Int) => rangeM 0 x2) fun (x21 : (List Int)) => forO (fun (b4 : Unit) (y3 : Int) => (Pz.bindM (Pz.bindM (Pz.bindM (pureM y3) fun (x5 : Int) => rangeM 0 x5) fun (x19 : (List Int)) => forO (fun (b7 : Unit) (y6 : Int) => (Pz.bindM (Pz.bindM (Pz.bindM (Pz.bindM (Pz.bindM (pureM v_lines) fun (x8 : (List (List Int))) => (Pz.bindM (pureM y3) fun (x9 : Int) => optM (atI x8 x9))) fun (x12 : (List Int)) => (Pz.bindM (Pz.bindM (pureM v_lines) fun (x10 : (List (List Int))) => (Pz.bindM (pureM y6) fun (x11 : Int) => optM (atI x10 x11))) fun (x13 : (List Int)) => m__law_both x12 x13)) fun (x14 : (List Int)) => pureM (x14.length : Int)) fun (x15 : Int) => (Pz.bindM (pureM (1 : Int)) fun (x16 : Int) => pureM (decide (x16 < x15)))) fun (x17 : Bool) => if x17 then Pz.bindM (pureM false) (fun (x18 : Bool) => pureM (Out.rt x18)) else (pureM (Out.nx ())))) x19 ()) fun o => caseO o (fun (r20 : Unit) => (pureM (Out.nx ()))) (fun r => pureM (Out.rt r)))) x21 ()) fun o => caseO o (fun (r22 : Unit) => (pureM true)) pureM)
theorem ok__law_is_open {f : Addr} {fd : FuncData} (F : Fun K "_law_is_open" "_law_is_open" s__law_is_open f fd) (B : Bl mg)
    {f__law_both : Addr} {d__law_both : FuncData} (C__law_both : Cal K mg "_law_both" f__law_both d__law_both ["one", "other"]) (F__law_both : FnG P w K mg base 1 f__law_both d__law_both ["one", "other"] (SpM (fun p : (List Int) × (List Int) × Unit => [.fz ((eT eInt) p.1), .fz ((eT eInt) p.2.1)]) (eT eInt) (fun p : (List Int) × (List Int) × Unit => m__law_both p.1 p.2.1))) :
    FnG P w K mg base 2 f fd ["lines"] (SpM (fun p : (List (List Int)) × Unit => [.fz ((eT (eT eInt)) p.1)]) eBool (fun p : (List (List Int)) × Unit => m__law_is_open p.1)) := by
  refine g_ok F sc__law_is_open (fun p : (List (List Int)) × Unit => [.fz ((eT (eT eInt)) p.1)]) eBool (fun p : (List (List Int)) × Unit => m__law_is_open p.1) (fun p => [.fz ((eT (eT eInt)) p.1), .un, .un]) (fun _ => rfl) (fun _ => rfl) ?_
  intro cdv A above s H E R p hG hr
  obtain ⟨v_lines, uu⟩ := p
  have sc := sc__law_is_open
  exact (s_step1 (er := eBool) (Γ1 := (fun (b : Unit) => [.fz ((eT (eT eInt)) v_lines), .un, .un])) (q_forO (er := eBool) (set := (st1 1 eInt)) (is := [1]) (fun (b : Unit) => [.fz ((eT (eT eInt)) v_lines), .un, .un]) () (fun (b4 : Unit) (y3 : Int) => (Pz.bindM (Pz.bindM (Pz.bindM (pureM y3) fun (x5 : Int) => rangeM 0 x5) fun (x19 : (List Int)) => forO (fun (b7 : Unit) (y6 : Int) => (Pz.bindM (Pz.bindM (Pz.bindM (Pz.bindM (Pz.bindM (pureM v_lines) fun (x8 : (List (List Int))) => (Pz.bindM (pureM y3) fun (x9 : Int) => optM (atI x8 x9))) fun (x12 : (List Int)) => (Pz.bindM (Pz.bindM (pureM v_lines) fun (x10 : (List (List Int))) => (Pz.bindM (pureM y6) fun (x11 : Int) => optM (atI x10 x11))) fun (x13 : (List Int)) => m__law_both x12 x13)) fun (x14 : (List Int)) => pureM (x14.length : Int)) fun (x15 : Int) => (Pz.bindM (pureM (1 : Int)) fun (x16 : Int) => pureM (decide (x16 < x15)))) fun (x17 : Bool) => if x17 then Pz.bindM (pureM false) (fun (x18 : Bool) => pureM (Out.rt x18)) else (pureM (Out.nx ())))) x19 ()) fun o => caseO o (fun (r20 : Unit) => (pureM (Out.nx ()))) (fun r => pureM (Out.rt r)))) PassesOwn.never rfl (i_range1 B.b_range (e_lenT B.b_len bt_len (e_var 0 (eT (eT eInt)) v_lines))) (g1 1 eInt sc.nd) noow1 (.eq (.un (.un .nil))) (fun (b4 : Unit) (y3 : Int) => (s_step2 (er := eBool) (Γ1 := (fun (b : Unit) => [.fz ((eT (eT eInt)) v_lines), .fz (eInt y3), .un])) (Γb := (fun (b : Unit) => [.fz ((eT (eT eInt)) v_lines), .un, .un])) (q_forO (er := eBool) (set := (st1 2 eInt)) (is := [2]) (fun (b : Unit) => [.fz ((eT (eT eInt)) v_lines), .fz (eInt y3), .un]) () (fun (b7 : Unit) (y6 : Int) => (Pz.bindM (Pz.bindM (Pz.bindM (Pz.bindM (Pz.bindM (pureM v_lines) fun (x8 : (List (List Int))) => (Pz.bindM (pureM y3) fun (x9 : Int) => optM (atI x8 x9))) fun (x12 : (List Int)) => (Pz.bindM (Pz.bindM (pureM v_lines) fun (x10 : (List (List Int))) => (Pz.bindM (pureM y6) fun (x11 : Int) => optM (atI x10 x11))) fun (x13 : (List Int)) => m__law_both x12 x13)) fun (x14 : (List Int)) => pureM (x14.length : Int)) fun (x15 : Int) => (Pz.bindM (pureM (1 : Int)) fun (x16 : Int) => pureM (decide (x16 < x15)))) fun (x17 : Bool) => if x17 then Pz.bindM (pureM false) (fun (x18 : Bool) => pureM (Out.rt x18)) else (pureM (Out.nx ())))) PassesOwn.never rfl (i_range1 B.b_range (e_var 1 eInt y3)) (g1 2 eInt sc.nd) noow1 (.eq (.eq (.un .nil))) (fun (b7 : Unit) (y6 : Int) => (s_ifret2 (Γb := (fun (b : Unit) => [.fz ((eT (eT eInt)) v_lines), .fz (eInt y3), .un])) (t_gt (e_lenT B.b_len bt_len (e_c2 (F__law_both.mono (by decide)) hG hr C__law_both.mg C__law_both.kp C__law_both.bd (e_ixT (e_var 0 (eT (eT eInt)) v_lines) (e_var 1 eInt y3)) (e_ixT (e_var 0 (eT (eT eInt)) v_lines) (e_var 2 eInt y6)))) e_int) (s_ret0 e_bool) (s_nilO (Γb := (fun (b : Unit) => [.fz ((eT (eT eInt)) v_lines), .fz (eInt y3), .un])) () (.eq (.eq (.un .nil))))))) (fun (r20 : Unit) => (s_nilO (Γb := (fun (b : Unit) => [.fz ((eT (eT eInt)) v_lines), .un, .un])) () (.eq (.un (.un .nil)))))))) (fun (r22 : Unit) => (s_ret0 e_bool)))

abbrev s__law_is_open_L : Stmt := topS 18
def N__law_is_open_L : List Str := ["lines", "r", "s"]
theorem sc__law_is_open_L : FnScope N__law_is_open_L ["lines"] (defScope s__law_is_open_L) := ⟨rfl, rfl, rfl, by decide +kernel, rfl, by decide +kernel, by decide +kernel⟩
def m__law_is_open_L (v_lines : (List (List Int))) : M Bool := (Pz.bindM (Pz.bindM (Pz.bindM (Pz.bindM (pureM v_lines) fun (x1 : (List (List Int))) => pureM (x1.length : Int)) fun (x2 : Int) => rangeM 0 x2) fun (x21 : (List Int)) => forO (fun (b4 : Unit) (y3 : Int) => (Pz.bindM (Pz.bindM (Pz.bindM (pureM y3) fun (x5 : Int) => rangeM 0 x5) fun (x19 : (List Int)) => forO (fun (b7 : Unit) (y6 : Int) => (Pz.bindM (Pz.bindM (Pz.bindM (Pz.bindM (Pz.bindM (pureM v_lines) fun (x8 : (List (List Int))) => (Pz.bindM (pureM y3) fun (x9 : Int) => optM (atI x8 x9))) fun (x12 : (List Int)) => (Pz.bindM (Pz.bindM (pureM v_lines) fun (x10 : (List (List Int))) => (Pz.bindM (pureM y6) fun (x11 : Int) => optM (atI x10 x11))) fun (x13 : (List Int)) => m__law_both x12 x13)) fun (x14 : (List Int)) => pureM (x14.length : Int)) fun (x15 : Int) => (Pz.bindM (pureM (1 : Int)) fun (x16 : Int) => pureM (decide (x16 < x15)))) fun (x17 : Bool) => if x17 then Pz.bindM (pureM false) (fun (x18 : Bool) => pureM (Out.rt x18)) else (pureM (Out.nx ())))) x19 ()) fun o => caseO o (fun (r20 : Unit) => (pureM (Out.nx ()))) (fun r => pureM (Out.rt r)))) x21 ()) fun o => caseO o (fun (r22 : Unit) => (pureM true)) pureM)
theorem ok__law_is_open_L {f : Addr} {fd : FuncData} (F : Fun K "_law_is_open" "_law_is_open" s__law_is_open_L f fd) (B : Bl mg)
    {f__law_both : Addr} {d__law_both : FuncData} (C__law_both : Cal K mg "_law_both" f__law_both d__law_both ["one", "other"]) (F__law_both : FnG P w K mg base 1 f__law_both d__law_both ["one", "other"] (SpM (fun p : (List Int) × (List Int) × Unit => [.fz ((eT eInt) p.1), .fz ((eT eInt) p.2.1)]) (eT eInt) (fun p : (List Int) × (List Int) × Unit => m__law_both p.1 p.2.1))) :
    FnG P w K mg base 2 f fd ["lines"] (SpM (fun p : (List (List Int)) × Unit => [.fz ((eL (eT eInt)) p.1)]) eBool (fun p : (List (List Int)) × Unit => m__law_is_open_L p.1)) := by
  refine g_ok F sc__law_is_open_L (fun p : (List (List Int)) × Unit => [.fz ((eL (eT eInt)) p.1)]) eBool (fun p : (List (List Int)) × Unit => m__law_is_open_L p.1) (fun p => [.fz ((eL (eT eInt)) p.1), .un, .un]) (fun _ => rfl) (fun _ => rfl) ?_
  intro cdv A above s H E R p hG hr
  obtain ⟨v_lines, uu⟩ := p
  have sc := sc__law_is_open_L
  exact (s_step1 (er := eBool) (Γ1 := (fun (b : Unit) => [.fz ((eL (eT eInt)) v_lines), .un, .un])) (q_forO (er := eBool) (set := (st1 1 eInt)) (is := [1]) (fun (b : Unit) => [.fz ((eL (eT eInt)) v_lines), .un, .un]) () (fun (b4 : Unit) (y3 : Int) => (Pz.bindM (Pz.bindM (Pz.bindM (pureM y3) fun (x5 : Int) => rangeM 0 x5) fun (x19 : (List Int)) => forO (fun (b7 : Unit) (y6 : Int) => (Pz.bindM (Pz.bindM (Pz.bindM (Pz.bindM (Pz.bindM (pureM v_lines) fun (x8 : (List (List Int))) => (Pz.bindM (pureM y3) fun (x9 : Int) => optM (atI x8 x9))) fun (x12 : (List Int)) => (Pz.bindM (Pz.bindM (pureM v_lines) fun (x10 : (List (List Int))) => (Pz.bindM (pureM y6) fun (x11 : Int) => optM (atI x10 x11))) fun (x13 : (List Int)) => m__law_both x12 x13)) fun (x14 : (List Int)) => pureM (x14.length : Int)) fun (x15 : Int) => (Pz.bindM (pureM (1 : Int)) fun (x16 : Int) => pureM (decide (x16 < x15)))) fun (x17 : Bool) => if x17 then Pz.bindM (pureM false) (fun (x18 : Bool) => pureM (Out.rt x18)) else (pureM (Out.nx ())))) x19 ()) fun o => caseO o (fun (r20 : Unit) => (pureM (Out.nx ()))) (fun r => pureM (Out.rt r)))) PassesOwn.never rfl (i_range1 B.b_range (e_len B.b_len bt_len (e_var 0 (eL (eT eInt)) v_lines))) (g1 1 eInt sc.nd) noow1 (.eq (.un (.un .nil))) (fun (b4 : Unit) (y3 : Int) => (s_step2 (er := eBool) (Γ1 := (fun (b : Unit) => [.fz ((eL (eT eInt)) v_lines), .fz (eInt y3), .un])) (Γb := (fun (b : Unit) => [.fz ((eL (eT eInt)) v_lines), .un, .un])) (q_forO (er := eBool) (set := (st1 2 eInt)) (is := [2]) (fun (b : Unit) => [.fz ((eL (eT eInt)) v_lines), .fz (eInt y3), .un]) () (fun (b7 : Unit) (y6 : Int) => (Pz.bindM (Pz.bindM (Pz.bindM (Pz.bindM (Pz.bindM (pureM v_lines) fun (x8 : (List (List Int))) => (Pz.bindM (pureM y3) fun (x9 : Int) => optM (atI x8 x9))) fun (x12 : (List Int)) => (Pz.bindM (Pz.bindM (pureM v_lines) fun (x10 : (List (List Int))) => (Pz.bindM (pureM y6) fun (x11 : Int) => optM (atI x10 x11))) fun (x13 : (List Int)) => m__law_both x12 x13)) fun (x14 : (List Int)) => pureM (x14.length : Int)) fun (x15 : Int) => (Pz.bindM (pureM (1 : Int)) fun (x16 : Int) => pureM (decide (x16 < x15)))) fun (x17 : Bool) => if x17 then Pz.bindM (pureM false) (fun (x18 : Bool) => pureM (Out.rt x18)) else (pureM (Out.nx ())))) PassesOwn.never rfl (i_range1 B.b_range (e_var 1 eInt y3)) (g1 2 eInt sc.nd) noow1 (.eq (.eq (.un .nil))) (fun (b7 : Unit) (y6 : Int) => (s_ifret2 (Γb := (fun (b : Unit) => [.fz ((eL (eT eInt)) v_lines), .fz (eInt y3), .un])) (t_gt (e_lenT B.b_len bt_len (e_c2 (F__law_both.mono (by decide)) hG hr C__law_both.mg C__law_both.kp C__law_both.bd (e_ixL (e_var 0 (eL (eT eInt)) v_lines) (e_var 1 eInt y3)) (e_ixL (e_var 0 (eL (eT eInt)) v_lines) (e_var 2 eInt y6)))) e_int) (s_ret0 e_bool) (s_nilO (Γb := (fun (b : Unit) => [.fz ((eL (eT eInt)) v_lines), .fz (eInt y3), .un])) () (.eq (.eq (.un .nil))))))) (fun (r20 : Unit) => (s_nilO (Γb := (fun (b : Unit) => [.fz ((eL (eT eInt)) v_lines), .un, .un])) () (.eq (.un (.un .nil)))))))) (fun (r22 : Unit) => (s_ret0 e_bool)))

abbrev s__law_draw : Stmt := topS 19
def N__law_draw : List Str := ["source", "m", "many", "lines", "is_any", "lap", "line", "x"]
theorem sc__law_draw : FnScope N__law_draw ["source", "m", "many"] (defScope s__law_draw) := ⟨rfl, rfl, rfl, by decide +kernel, rfl, by decide +kernel, by decide +kernel⟩
def m__law_draw (v_m : Int) (v_many : Int) : M (List (List Int)) := (Pz.bindM (Pz.bindM (smallM (pureM ([] : List (List Int)))) fun (x8 : (List (List Int))) => (Pz.bindM (Pz.bindM (Pz.bindM (pureM (4 : Int)) fun (x5 : Int) => m__law_pick x5) fun (x6 : Int) => (Pz.bindM (pureM (0 : Int)) fun (x7 : Int) => pureM (decide (x6 = x7)))) fun (x9 : Bool) => pureM (x8, x9))) fun (r1 : ((List (List Int)) × Bool)) => (Pz.bindM (Pz.bindM (Pz.bindM (Pz.bindM (Pz.bindM (pureM v_many) fun (x10 : Int) => (Pz.bindM (pureM (1 : Int)) fun (x11 : Int) => pureM (x10 + x11))) fun (x12 : Int) => m__law_pick x12) fun (x13 : Int) => rangeM 0 x13) fun (x37 : (List Int)) => forM' (fun (b15 : ((List (List Int)))) (y14 : Int) => (Pz.bindM (Pz.bindM (Pz.bindM (Pz.bindM (pureM v_m) fun (x17 : Int) => rangeM 0 x17) fun (x22 : (List Int)) => compM (fun (y18 : Int) => (Pz.bindM (Pz.bindM (pureM (5 : Int)) fun (x19 : Int) => m__law_pick x19) fun (x20 : Int) => (Pz.bindM (pureM (2 : Int)) fun (x21 : Int) => pureM (decide (x20 < x21))))) (fun (y18 : Int) => (pureM y18)) x22) fun (x23 : (List Int)) => optM (some x23)) fun (r16 : (List Int)) => (Pz.bindM (Pz.bindM (pureM r1.2) fun (x33 : Bool) => if x33 then pureM true else (Pz.bindM (Pz.bindM (pureM b15) fun (x30 : (List (List Int))) => (Pz.bindM (smallM (Pz.bindM (pureM r16) fun (x28 : (List Int)) => (Pz.bindM (pureM ([] : List (List Int))) fun (x29 : (List (List Int))) => pureM (x28 :: x29)))) fun (x31 : (List (List Int))) => optM (catO x30 x31))) fun (x32 : (List (List Int))) => m__law_is_open_L x32)) fun (x34 : Bool) => if x34 then (Pz.bindM (Pz.bindM (pureM r16) fun (x36 : (List Int)) => appM b15 x36) fun (r35 : (List (List Int))) => (pureM r35)) else (pureM b15)))) x37 r1.1) fun (r38 : ((List (List Int)))) => (Pz.bindM (pureM r38) fun (x39 : (List (List Int))) => optM (some x39))))
theorem ok__law_draw {f : Addr} {fd : FuncData} (F : Fun K "_law_draw" "_law_draw" s__law_draw f fd) (B : Bl mg)
    {f__law_pick : Addr} {d__law_pick : FuncData} (C__law_pick : Cal K mg "_law_pick" f__law_pick d__law_pick ["source", "most"]) (F__law_pick : FnG P w K mg base 1 f__law_pick d__law_pick ["source", "most"] (SpM (fun p : Int × Unit => [.src, .fz (eInt p.1)]) eInt (fun p => pickM p.1)))
    {f__law_is_open_L : Addr} {d__law_is_open_L : FuncData} (C__law_is_open_L : Cal K mg "_law_is_open" f__law_is_open_L d__law_is_open_L ["lines"]) (F__law_is_open_L : FnG P w K mg base 2 f__law_is_open_L d__law_is_open_L ["lines"] (SpM (fun p : (List (List Int)) × Unit => [.fz ((eL (eT eInt)) p.1)]) eBool (fun p : (List (List Int)) × Unit => m__law_is_open_L p.1))) :
    FnG P w K mg base 3 f fd ["source", "m", "many"] (SpM (fun p : Int × Int × Unit => [.src, .fz (eInt p.1), .fz (eInt p.2.1)]) (eT (eT eInt)) (fun p : Int × Int × Unit => m__law_draw p.1 p.2.1)) := by
  refine g_ok F sc__law_draw (fun p : Int × Int × Unit => [.src, .fz (eInt p.1), .fz (eInt p.2.1)]) (eT (eT eInt)) (fun p : Int × Int × Unit => m__law_draw p.1 p.2.1) (fun p => [.src, .fz (eInt p.1), .fz (eInt p.2.1), .un, .un, .un, .un, .un]) (fun _ => rfl) (fun _ => rfl) ?_
  intro cdv A above s H E R p hG hr
  obtain ⟨v_m, v_many, uu⟩ := p
  have sc := sc__law_draw
  exact (s_step (Γ1 := fun (r1 : ((List (List Int)) × Bool)) => [.src, .fz (eInt v_m), .fz (eInt v_many), .ow ((eL (eT eInt)) r1.1), .fz (eBool r1.2), .un, .un, .un]) (q_par2p 3 4 (f_list l_nil) (e_eqI (e_cs1 0 (F__law_pick.mono (by decide)) hG hr C__law_pick.mg C__law_pick.kp C__law_pick.bd e_int) e_int) NL.bool rfl sc.nd) (fun (r1 : ((List (List Int)) × Bool)) => (s_step (Γ1 := (fun (b : ((List (List Int)))) => [.src, .fz (eInt v_m), .fz (eInt v_many), .ow ((eL (eT eInt)) b), .fz (eBool r1.2), .un, .un, .un])) (q_for (set := (st1 5 eInt)) (is := [5]) (fun (b : ((List (List Int)))) => [.src, .fz (eInt v_m), .fz (eInt v_many), .ow ((eL (eT eInt)) b), .fz (eBool r1.2), .un, .un, .un]) r1.1 (fun (b15 : ((List (List Int)))) (y14 : Int) => (Pz.bindM (Pz.bindM (Pz.bindM (Pz.bindM (pureM v_m) fun (x17 : Int) => rangeM 0 x17) fun (x22 : (List Int)) => compM (fun (y18 : Int) => (Pz.bindM (Pz.bindM (pureM (5 : Int)) fun (x19 : Int) => m__law_pick x19) fun (x20 : Int) => (Pz.bindM (pureM (2 : Int)) fun (x21 : Int) => pureM (decide (x20 < x21))))) (fun (y18 : Int) => (pureM y18)) x22) fun (x23 : (List Int)) => optM (some x23)) fun (r16 : (List Int)) => (Pz.bindM (Pz.bindM (pureM r1.2) fun (x33 : Bool) => if x33 then pureM true else (Pz.bindM (Pz.bindM (pureM b15) fun (x30 : (List (List Int))) => (Pz.bindM (smallM (Pz.bindM (pureM r16) fun (x28 : (List Int)) => (Pz.bindM (pureM ([] : List (List Int))) fun (x29 : (List (List Int))) => pureM (x28 :: x29)))) fun (x31 : (List (List Int))) => optM (catO x30 x31))) fun (x32 : (List (List Int))) => m__law_is_open_L x32)) fun (x34 : Bool) => if x34 then (Pz.bindM (Pz.bindM (pureM r16) fun (x36 : (List Int)) => appM b15 x36) fun (r35 : (List (List Int))) => (pureM r35)) else (pureM b15)))) PassesOwn.never rfl (i_range1 B.b_range (e_cs1 0 (F__law_pick.mono (by decide)) hG hr C__law_pick.mg C__law_pick.kp C__law_pick.bd (e_add (e_var 2 eInt v_many) e_int))) (g1 5 eInt sc.nd) noow1 (.eq (.eq (.eq (.eq (.eq (.un (.un (.un .nil)))))))) (fun (b15 : ((List (List Int)))) (y14 : Int) => (s_step (Γ1 := fun (r16 : (List Int)) => [.src, .fz (eInt v_m), .fz (eInt v_many), .ow ((eL (eT eInt)) b15), .fz (eBool r1.2), .fz (eInt y14), .fz ((eT eInt) r16), .un]) (q_set 6 (e_t1 (ea := (eL eInt)) (ec := (eT eInt)) (f := fun x => some x) call_tuple_of v_tupL B.b_tuple bt_tuple (f_e (f_lc (set := (st1 7 eInt)) (is := [7]) [("x", 7)] (fun (y18 : Int) => (Pz.bindM (Pz.bindM (pureM (5 : Int)) fun (x19 : Int) => m__law_pick x19) fun (x20 : Int) => (Pz.bindM (pureM (2 : Int)) fun (x21 : Int) => pureM (decide (x20 < x21))))) (fun (y18 : Int) => (pureM y18)) rfl sc.nd (i_range1 B.b_range (e_var 1 eInt v_m)) (blkOk_by (N := N__law_draw) (sc := (defScope s__law_draw)) (by decide +kernel)) (fun _ _ _ _ _ => (g1 7 eInt sc.nd)) (fun _ _ _ _ _ (y18 : Int) => (c_one (t_lt (e_cs1 0 (F__law_pick.mono (by decide)) hG hr C__law_pick.mg C__law_pick.kp C__law_pick.bd e_int) e_int))) (fun _ _ _ _ _ (y18 : Int) => (e_var 7 eInt y18)) noow1 sm1 (fun _ h => h) (noOw rfl)))) sc.nd) (fun (r16 : (List Int)) => (s_ifend (t_borrow 3 (d := ((eL (eT eInt)) b15)) (w_t (w_or (t_val (e_var 4 eBool r1.2)) (w_or1 (t_val (e_c1 (F__law_is_open_L.mono (by decide)) hG hr C__law_is_open_L.mg C__law_is_open_L.kp C__law_is_open_L.bd (f_e (f_catL (e_var 3 (eL (eT eInt)) b15) (f_e (f_list (l_cons (e_var 6 (eT eInt) r16) l_nil))))))))))) (s_step (Γ1 := fun (r35 : (List (List Int))) => [.src, .fz (eInt v_m), .fz (eInt v_many), .ow ((eL (eT eInt)) r35), .fz (eBool r1.2), .fz (eInt y14), .fz ((eT eInt) r16), .un]) (q_app 3 b15 (e_var 6 (eT eInt) r16)) (fun (r35 : (List (List Int))) => (s_nilN (Γb := (fun (b : ((List (List Int)))) => [.src, .fz (eInt v_m), .fz (eInt v_many), .ow ((eL (eT eInt)) b), .fz (eBool r1.2), .un, .un, .un])) r35 (.eq (.eq (.eq (.eq (.eq (.un (.un (.un .nil))))))))))) (s_nilN (Γb := (fun (b : ((List (List Int)))) => [.src, .fz (eInt v_m), .fz (eInt v_many), .ow ((eL (eT eInt)) b), .fz (eBool r1.2), .un, .un, .un])) b15 (.eq (.eq (.eq (.eq (.eq (.un (.un (.un .nil)))))))))))))) (fun (r38 : ((List (List Int)))) => (s_low (Γ' := [.src, .fz (eInt v_m), .fz (eInt v_many), .fz ((eL (eT eInt)) r38), .fz (eBool r1.2), .un, .un, .un]) (.eq (.eq (.eq (.fr (.eq (.un (.un (.un .nil)))))))) (s_ret0 (e_t1 (ea := (eL (eT eInt))) (ec := (eT (eT eInt))) (f := fun x => some x) call_tuple_of v_tupL B.b_tuple bt_tuple (e_var 3 (eL (eT eInt)) r38))))))))

abbrev s__law_is_count : Stmt := topS 20
def N__law_is_count : List Str := ["value"]
theorem sc__law_is_count : FnScope N__law_is_count ["value"] (defScope s__law_is_count) := ⟨rfl, rfl, rfl, by decide +kernel, rfl, by decide +kernel, by decide +kernel⟩
def m__law_is_count (v_value : PyData) : M Bool := (Pz.bindM (Pz.bindM (pureM v_value) fun (x1 : PyData) => pureM (isTy "int" (eD x1))) fun (x8 : Bool) => if x8 then (Pz.bindM (Pz.bindM (Pz.bindM (pureM v_value) fun (x2 : PyData) => pureM (isTy "bool" (eD x2))) fun (x3 : Bool) => pureM (!x3)) fun (x7 : Bool) => if x7 then (Pz.bindM (Pz.bindM (pureM v_value) fun (x4 : PyData) => optM (asInt x4)) fun (x5 : Int) => (Pz.bindM (pureM (0 : Int)) fun (x6 : Int) => pureM (decide (x6 ≤ x5)))) else pureM false) else pureM false)
theorem ok__law_is_count {f : Addr} {fd : FuncData} (F : Fun K "_law_is_count" "_law_is_count" s__law_is_count f fd) (B : Bl mg) :
    FnG P w K mg base 1 f fd ["value"] (SpM (fun p : PyData × Unit => [.fz (eD p.1)]) eBool (fun p : PyData × Unit => m__law_is_count p.1)) := by
  refine g_ok F sc__law_is_count (fun p : PyData × Unit => [.fz (eD p.1)]) eBool (fun p : PyData × Unit => m__law_is_count p.1) (fun p => [.fz (eD p.1)]) (fun _ => rfl) (fun _ => rfl) ?_
  intro cdv A above s H E R p hG hr
  obtain ⟨v_value, uu⟩ := p
  have sc := sc__law_is_count
  exact (s_ret0 (e_and (e_isi (ea := eD) (fun K d => kit_int d) B.b_isinstance B.b_int bt_int (e_var 0 eD v_value)) (e_and (e_not (e_isi (ea := eD) (fun K d => kit_bool d) B.b_isinstance B.b_bool bt_bool (e_var 0 eD v_value))) (e_one1 (e_ge (e_dInt (e_var 0 eD v_value)) e_int)))))

abbrev s__law_fault : Stmt := topS 21
def N__law_fault : List Str := ["lines", "m", "value", "n", "pairs", "r", "s", "c", "d", "line", "x", "k", "more", "one"]
theorem sc__law_fault : FnScope N__law_fault ["lines", "m", "value"] (defScope s__law_fault) := ⟨rfl, rfl, rfl, by decide +kernel, rfl, by decide +kernel, by decide +kernel⟩
def m__law_fault (v_lines : (List (List Int))) (v_m : Int) (v_value : PyData) : M PyData := (Pz.bindM (Pz.bindM (Pz.bindM (pureM v_lines) fun (x5 : (List (List Int))) => pureM (x5.length : Int)) fun (x10 : Int) => (Pz.bindM (Pz.bindM (Pz.bindM (pureM v_m) fun (x6 : Int) => (Pz.bindM (pureM (2 : Int)) fun (x7 : Int) => m__law_some x6 x7)) fun (x8 : (List (List Int))) => (Pz.bindM (pureM ()) fun (x9 : Unit) => pureM (x8, x9))) fun (x11 : ((List (List Int)) × Unit)) => pureM (x10, x11))) fun (r1 : (Int × (List (List Int)) × Unit)) => (Pz.bindM (Pz.bindM (Pz.bindM (Pz.bindM (pureM v_value) fun (x12 : PyData) => pureM (isTy "tuple" (eD x12))) fun (x13 : Bool) => pureM (!x13)) fun (x29 : Bool) => if x29 then pureM true else (Pz.bindM (Pz.bindM (Pz.bindM (Pz.bindM (pureM v_value) fun (x14 : PyData) => optM (asTup x14)) fun (x15 : (List PyData)) => pureM (x15.length : Int)) fun (x16 : Int) => (Pz.bindM (pureM (2 : Int)) fun (x17 : Int) => pureM (decide (x16 < x17)))) fun (x28 : Bool) => if x28 then pureM true else (Pz.bindM (Pz.bindM (Pz.bindM (pureM v_value) fun (x23 : PyData) => optM (asTup x23)) fun (x24 : (List PyData)) => (Pz.bindM (pureM (0 : Int)) fun (x25 : Int) => optM (atI x24 x25))) fun (x26 : PyData) => (Pz.bindM (Pz.bindM (Pz.bindM (pureM ("ring" : Str)) fun (x20 : Str) => (Pz.bindM (Pz.bindM (pureM ("pairs" : Str)) fun (x18 : Str) => (Pz.bindM (pureM ()) fun (x19 : Unit) => pureM (x18, x19))) fun (x21 : (Str × Unit)) => pureM (x20, x21))) fun (x22 : (Str × Str × Unit)) => pureM ((fun p : (Str × Str × Unit) => [p.1, p.2.1]) x22)) fun (x27 : (List Str)) => optM ((inZ (eD x26) ((eT eStr) x27)).map (!·)))))) fun (x30 : Bool) => if x30 then (Pz.bindM (Pz.bindM (pureM ("form" : Str)) fun (x31 : Str) => (Pz.bindM (pureM ()) fun (x32 : Unit) => pureM (x31, x32))) fun (x33 : (Str × Unit)) => pureM ((eP (eC eStr eU)) x33)) else (Pz.bindM (Pz.bindM (Pz.bindM (Pz.bindM (pureM v_value) fun (x34 : PyData) => optM (asTup x34)) fun (x35 : (List PyData)) => (Pz.bindM (pureM (0 : Int)) fun (x36 : Int) => optM (atI x35 x36))) fun (x37 : PyData) => (Pz.bindM (pureM ("ring" : Str)) fun (x38 : Str) => optM (eqZ (eD x37) (eStr x38)))) fun (x39 : Bool) => if x39 then (Pz.bindM (Pz.bindM (Pz.bindM (Pz.bindM (Pz.bindM (pureM v_value) fun (x40 : PyData) => optM (asTup x40)) fun (x41 : (List PyData)) => pureM (x41.length : Int)) fun (x42 : Int) => (Pz.bindM (pureM (5 : Int)) fun (x43 : Int) => pureM (!decide (x42 = x43)))) fun (x54 : Bool) => if x54 then pureM true else (Pz.bindM (Pz.bindM (Pz.bindM (Pz.bindM (Pz.bindM (pureM v_value) fun (x44 : PyData) => optM (asTup x44)) fun (x46 : (List PyData)) => (Pz.bindM (Pz.bindM (pureM (1 : Int)) fun (x45 : Int) => pureM (some x45)) fun (x47 : (Option Int)) => (Pz.bindM (pureM (none : Option Int)) fun (x48 : (Option Int)) => pureM (cutL x46 x47 x48)))) fun (x51 : (List PyData)) => compM (fun (y49 : PyData) => (pureM true)) (fun (y49 : PyData) => (Pz.bindM (pureM y49) fun (x50 : PyData) => m__law_is_count x50)) x51) fun (x52 : (List Bool)) => optM (some (x52.all id))) fun (x53 : Bool) => pureM (!x53))) fun (x55 : Bool) => if x55 then (Pz.bindM (Pz.bindM (pureM ("form" : Str)) fun (x56 : Str) => (Pz.bindM (pureM ()) fun (x57 : Unit) => pureM (x56, x57))) fun (x58 : (Str × Unit)) => pureM ((eP (eC eStr eU)) x58)) else (Pz.bindM (Pz.bindM (Pz.bindM (Pz.bindM (pureM v_value) fun (x60 : PyData) => optM (asTup x60)) fun (x62 : (List PyData)) => (Pz.bindM (Pz.bindM (pureM (1 : Int)) fun (x61 : Int) => pureM (some x61)) fun (x63 : (Option Int)) => (Pz.bindM (pureM (none : Option Int)) fun (x64 : (Option Int)) => pureM (cutL x62 x63 x64)))) fun (x65 : (List PyData)) => optM (of4 x65)) fun (r59 : (PyData × PyData × PyData × PyData × Unit)) => (Pz.bindM (Pz.bindM (Pz.bindM (Pz.bindM (Pz.bindM (pureM r59.1) fun (x66 : PyData) => optM (asInt x66)) fun (x68 : Int) => (Pz.bindM (Pz.bindM (pureM r59.2.1) fun (x67 : PyData) => optM (asInt x67)) fun (x69 : Int) => (Pz.bindM (optM (some (decide (x68 < x69)))) fun (x71 : Bool) => if x71 then (Pz.bindM (pureM r1.1) fun (x70 : Int) => optM (some (decide (x69 < x70)))) else pureM false))) fun (x72 : Bool) => pureM (!x72)) fun (x80 : Bool) => if x80 then pureM true else (Pz.bindM (Pz.bindM (Pz.bindM (pureM r59.2.2.1) fun (x73 : PyData) => optM (asInt x73)) fun (x75 : Int) => (Pz.bindM (Pz.bindM (pureM r59.2.2.2.1) fun (x74 : PyData) => optM (asInt x74)) fun (x76 : Int) => (Pz.bindM (optM (some (decide (x75 < x76)))) fun (x78 : Bool) => if x78 then (Pz.bindM (pureM v_m) fun (x77 : Int) => optM (some (decide (x76 < x77)))) else pureM false))) fun (x79 : Bool) => pureM (!x79))) fun (x81 : Bool) => if x81 then (Pz.bindM (Pz.bindM (pureM ("form" : Str)) fun (x82 : Str) => (Pz.bindM (pureM ()) fun (x83 : Unit) => pureM (x82, x83))) fun (x84 : (Str × Unit)) => pureM ((eP (eC eStr eU)) x84)) else (Pz.bindM (Pz.bindM (Pz.bindM (Pz.bindM (Pz.bindM (pureM r59.1) fun (x87 : PyData) => (Pz.bindM (Pz.bindM (pureM r59.2.2.1) fun (x85 : PyData) => (Pz.bindM (pureM ()) fun (x86 : Unit) => pureM (x85, x86))) fun (x88 : (PyData × Unit)) => pureM (x87, x88))) fun (x107 : (PyData × PyData × Unit)) => (Pz.bindM (Pz.bindM (Pz.bindM (pureM r59.1) fun (x91 : PyData) => (Pz.bindM (Pz.bindM (pureM r59.2.2.2.1) fun (x89 : PyData) => (Pz.bindM (pureM ()) fun (x90 : Unit) => pureM (x89, x90))) fun (x92 : (PyData × Unit)) => pureM (x91, x92))) fun (x105 : (PyData × PyData × Unit)) => (Pz.bindM (Pz.bindM (Pz.bindM (pureM r59.2.1) fun (x95 : PyData) => (Pz.bindM (Pz.bindM (pureM r59.2.2.1) fun (x93 : PyData) => (Pz.bindM (pureM ()) fun (x94 : Unit) => pureM (x93, x94))) fun (x96 : (PyData × Unit)) => pureM (x95, x96))) fun (x103 : (PyData × PyData × Unit)) => (Pz.bindM (Pz.bindM (Pz.bindM (pureM r59.2.1) fun (x99 : PyData) => (Pz.bindM (Pz.bindM (pureM r59.2.2.2.1) fun (x97 : PyData) => (Pz.bindM (pureM ()) fun (x98 : Unit) => pureM (x97, x98))) fun (x100 : (PyData × Unit)) => pureM (x99, x100))) fun (x101 : (PyData × PyData × Unit)) => (Pz.bindM (pureM ()) fun (x102 : Unit) => pureM (x101, x102))) fun (x104 : ((PyData × PyData × Unit) × Unit)) => pureM (x103, x104))) fun (x106 : ((PyData × PyData × Unit) × ((PyData × PyData × Unit) × Unit))) => pureM (x105, x106))) fun (x108 : ((PyData × PyData × Unit) × ((PyData × PyData × Unit) × ((PyData × PyData × Unit) × Unit)))) => pureM (x107, x108))) fun (x109 : ((PyData × PyData × Unit) × (PyData × PyData × Unit) × (PyData × PyData × Unit) × (PyData × PyData × Unit) × Unit)) => pureM ((fun p : ((PyData × PyData × Unit) × (PyData × PyData × Unit) × (PyData × PyData × Unit) × (PyData × PyData × Unit) × Unit) => [p.1, p.2.1, p.2.2.1, p.2.2.2.1]) x109)) fun (x126 : (List (PyData × PyData × Unit))) => forO (fun (b111 : Unit) (y110 : (PyData × PyData × Unit)) => (Pz.bindM (Pz.bindM (pureM y110.2.1) fun (x115 : PyData) => (Pz.bindM (Pz.bindM (pureM v_lines) fun (x113 : (List (List Int))) => (Pz.bindM (Pz.bindM (pureM y110.1) fun (x112 : PyData) => optM (asInt x112)) fun (x114 : Int) => optM (atI x113 x114))) fun (x116 : (List Int)) => optM ((inZ (eD x115) ((eT eInt) x116)).map (!·)))) fun (x117 : Bool) => if x117 then Pz.bindM (Pz.bindM (Pz.bindM (pureM ("off" : Str)) fun (x122 : Str) => (Pz.bindM (Pz.bindM (pureM y110.1) fun (x120 : PyData) => (Pz.bindM (Pz.bindM (pureM y110.2.1) fun (x118 : PyData) => (Pz.bindM (pureM ()) fun (x119 : Unit) => pureM (x118, x119))) fun (x121 : (PyData × Unit)) => pureM (x120, x121))) fun (x123 : (PyData × (PyData × Unit))) => pureM (x122, x123))) fun (x124 : (Str × PyData × PyData × Unit)) => pureM ((eP (eC eStr (eC eD (eC eD eU)))) x124)) (fun (x125 : PyData) => pureM (Out.rt x125)) else (pureM (Out.nx ())))) x126 ()) fun o => caseO o (fun (r127 : Unit) => (Pz.bindM (pureM ()) fun (x128 : Unit) => pureM (eNon x128))) pureM)))) else (Pz.bindM (Pz.bindM (Pz.bindM (Pz.bindM (Pz.bindM (pureM v_value) fun (x129 : PyData) => optM (asTup x129)) fun (x130 : (List PyData)) => pureM (x130.length : Int)) fun (x131 : Int) => (Pz.bindM (pureM (2 : Int)) fun (x132 : Int) => pureM (!decide (x131 = x132)))) fun (x147 : Bool) => if x147 then pureM true else (Pz.bindM (Pz.bindM (Pz.bindM (Pz.bindM (Pz.bindM (pureM v_value) fun (x133 : PyData) => optM (asTup x133)) fun (x134 : (List PyData)) => (Pz.bindM (pureM (1 : Int)) fun (x135 : Int) => optM (atI x134 x135))) fun (x136 : PyData) => pureM (isTy "tuple" (eD x136))) fun (x137 : Bool) => pureM (!x137)) fun (x146 : Bool) => if x146 then pureM true else (Pz.bindM (Pz.bindM (Pz.bindM (Pz.bindM (Pz.bindM (pureM v_value) fun (x138 : PyData) => optM (asTup x138)) fun (x139 : (List PyData)) => (Pz.bindM (pureM (1 : Int)) fun (x140 : Int) => optM (atI x139 x140))) fun (x141 : PyData) => optM (asTup x141)) fun (x142 : (List PyData)) => pureM (x142.length : Int)) fun (x144 : Int) => (Pz.bindM (Pz.bindM (pureM r1.2.1) fun (x143 : (List (List Int))) => pureM (x143.length : Int)) fun (x145 : Int) => pureM (!decide (x144 = x145)))))) fun (x148 : Bool) => if x148 then (Pz.bindM (Pz.bindM (pureM ("form" : Str)) fun (x149 : Str) => (Pz.bindM (pureM ()) fun (x150 : Unit) => pureM (x149, x150))) fun (x151 : (Str × Unit)) => pureM ((eP (eC eStr eU)) x151)) else (Pz.bindM (Pz.bindM (Pz.bindM (Pz.bindM (Pz.bindM (Pz.bindM (pureM v_value) fun (x152 : PyData) => optM (asTup x152)) fun (x153 : (List PyData)) => (Pz.bindM (pureM (1 : Int)) fun (x154 : Int) => optM (atI x153 x154))) fun (x155 : PyData) => optM (asTup x155)) fun (x165 : (List PyData)) => compM (fun (y156 : PyData) => (Pz.bindM (Pz.bindM (pureM y156) fun (x157 : PyData) => pureM (!isNon x157)) fun (x164 : Bool) => if x164 then (Pz.bindM (Pz.bindM (Pz.bindM (pureM y156) fun (x158 : PyData) => m__law_is_count x158) fun (x162 : Bool) => if x162 then (Pz.bindM (Pz.bindM (pureM y156) fun (x159 : PyData) => optM (asInt x159)) fun (x160 : Int) => (Pz.bindM (pureM r1.1) fun (x161 : Int) => pureM (decide (x160 < x161)))) else pureM false) fun (x163 : Bool) => pureM (!x163)) else pureM false)) (fun (y156 : PyData) => (pureM y156)) x165) fun (x168 : (List PyData)) => (Pz.bindM (smallM (pureM ([] : List PyData))) fun (x169 : (List PyData)) => optM ((eqZ ((eL eD) x168) ((eL eD) x169)).map (!·)))) fun (x170 : Bool) => if x170 then (Pz.bindM (Pz.bindM (pureM ("form" : Str)) fun (x171 : Str) => (Pz.bindM (pureM ()) fun (x172 : Unit) => pureM (x171, x172))) fun (x173 : (Str × Unit)) => pureM ((eP (eC eStr eU)) x173)) else (Pz.bindM (Pz.bindM (Pz.bindM (Pz.bindM (Pz.bindM (Pz.bindM (pureM v_value) fun (x174 : PyData) => optM (asTup x174)) fun (x175 : (List PyData)) => (Pz.bindM (pureM (1 : Int)) fun (x176 : Int) => optM (atI x175 x176))) fun (x177 : PyData) => optM (asTup x177)) fun (x178 : (List PyData)) => pureM (enumL x178)) fun (x201 : (List (Int × PyData × Unit))) => forO (fun (b180 : Unit) (y179 : (Int × PyData × Unit)) => (Pz.bindM (Pz.bindM (Pz.bindM (pureM y179.2.1) fun (x181 : PyData) => pureM (!isNon x181)) fun (x193 : Bool) => if x193 then (Pz.bindM (Pz.bindM (Pz.bindM (pureM r1.2.1) fun (x182 : (List (List Int))) => (Pz.bindM (pureM y179.1) fun (x183 : Int) => optM (atI x182 x183))) fun (x187 : (List Int)) => (Pz.bindM (Pz.bindM (pureM v_lines) fun (x185 : (List (List Int))) => (Pz.bindM (Pz.bindM (pureM y179.2.1) fun (x184 : PyData) => optM (asInt x184)) fun (x186 : Int) => optM (atI x185 x186))) fun (x188 : (List Int)) => m__law_both x187 x188)) fun (x191 : (List Int)) => (Pz.bindM (Pz.bindM (pureM r1.2.1) fun (x189 : (List (List Int))) => (Pz.bindM (pureM y179.1) fun (x190 : Int) => optM (atI x189 x190))) fun (x192 : (List Int)) => pureM (!decide (x191 = x192)))) else pureM false) fun (x194 : Bool) => if x194 then Pz.bindM (Pz.bindM (Pz.bindM (pureM ("off" : Str)) fun (x197 : Str) => (Pz.bindM (Pz.bindM (pureM y179.1) fun (x195 : Int) => (Pz.bindM (pureM ()) fun (x196 : Unit) => pureM (x195, x196))) fun (x198 : (Int × Unit)) => pureM (x197, x198))) fun (x199 : (Str × Int × Unit)) => pureM ((eP (eC eStr (eC eInt eU))) x199)) (fun (x200 : PyData) => pureM (Out.rt x200)) else (pureM (Out.nx ())))) x201 ()) fun o => caseO o (fun (r202 : Unit) => (Pz.bindM (Pz.bindM (Pz.bindM (Pz.bindM (Pz.bindM (Pz.bindM (pureM v_value) fun (x203 : PyData) => optM (asTup x203)) fun (x204 : (List PyData)) => (Pz.bindM (pureM (1 : Int)) fun (x205 : Int) => optM (atI x204 x205))) fun (x206 : PyData) => optM (asTup x206)) fun (x207 : (List PyData)) => pureM (enumL x207)) fun (x240 : (List (Int × PyData × Unit))) => forO (fun (b209 : Unit) (y208 : (Int × PyData × Unit)) => (Pz.bindM (Pz.bindM (Pz.bindM (pureM r1.1) fun (x211 : Int) => rangeM 0 x211) fun (x226 : (List Int)) => compM (fun (y212 : Int) => (Pz.bindM (Pz.bindM (pureM y212) fun (x213 : Int) => (Pz.bindM (pureM y208.2.1) fun (x214 : PyData) => optM ((eqZ (eInt x213) (eD x214)).map (!·)))) fun (x225 : Bool) => if x225 then (Pz.bindM (Pz.bindM (Pz.bindM (pureM r1.2.1) fun (x215 : (List (List Int))) => (Pz.bindM (pureM y208.1) fun (x216 : Int) => optM (atI x215 x216))) fun (x219 : (List Int)) => (Pz.bindM (Pz.bindM (pureM v_lines) fun (x217 : (List (List Int))) => (Pz.bindM (pureM y212) fun (x218 : Int) => optM (atI x217 x218))) fun (x220 : (List Int)) => m__law_both x219 x220)) fun (x223 : (List Int)) => (Pz.bindM (Pz.bindM (pureM r1.2.1) fun (x221 : (List (List Int))) => (Pz.bindM (pureM y208.1) fun (x222 : Int) => optM (atI x221 x222))) fun (x224 : (List Int)) => pureM (decide (x223 = x224)))) else pureM false)) (fun (y212 : Int) => (pureM y212)) x226) fun (r210 : (List Int)) => (Pz.bindM (Pz.bindM (pureM r210) fun (x227 : (List Int)) => (Pz.bindM (smallM (pureM ([] : List Int))) fun (x228 : (List Int)) => pureM (!decide (x227 = x228)))) fun (x229 : Bool) => if x229 then Pz.bindM (Pz.bindM (Pz.bindM (pureM ("more" : Str)) fun (x236 : Str) => (Pz.bindM (Pz.bindM (pureM y208.1) fun (x234 : Int) => (Pz.bindM (Pz.bindM (Pz.bindM (pureM r210) fun (x230 : (List Int)) => (Pz.bindM (pureM (0 : Int)) fun (x231 : Int) => optM (atI x230 x231))) fun (x232 : Int) => (Pz.bindM (pureM ()) fun (x233 : Unit) => pureM (x232, x233))) fun (x235 : (Int × Unit)) => pureM (x234, x235))) fun (x237 : (Int × (Int × Unit))) => pureM (x236, x237))) fun (x238 : (Str × Int × Int × Unit)) => pureM ((eP (eC eStr (eC eInt (eC eInt eU)))) x238)) (fun (x239 : PyData) => pureM (Out.rt x239)) else (pureM (Out.nx ()))))) x240 ()) fun o => caseO o (fun (r241 : Unit) => (Pz.bindM (pureM ()) fun (x242 : Unit) => pureM (eNon x242))) pureM)) pureM))))))
theorem ok__law_fault {f : Addr} {fd : FuncData} (F : Fun K "_law_fault" "_law_fault" s__law_fault f fd) (B : Bl mg)
    {f__law_some : Addr} {d__law_some : FuncData} (C__law_some : Cal K mg "_law_some" f__law_some d__law_some ["m", "s"]) (F__law_some : FnG P w K mg base 1 f__law_some d__law_some ["m", "s"] (SpM (fun p : Int × Int × Unit => [.fz (eInt p.1), .fz (eInt p.2.1)]) (eL (eT eInt)) (fun p : Int × Int × Unit => m__law_some p.1 p.2.1)))
    {f__law_is_count : Addr} {d__law_is_count : FuncData} (C__law_is_count : Cal K mg "_law_is_count" f__law_is_count d__law_is_count ["value"]) (F__law_is_count : FnG P w K mg base 1 f__law_is_count d__law_is_count ["value"] (SpM (fun p : PyData × Unit => [.fz (eD p.1)]) eBool (fun p : PyData × Unit => m__law_is_count p.1)))
    {f__law_both : Addr} {d__law_both : FuncData} (C__law_both : Cal K mg "_law_both" f__law_both d__law_both ["one", "other"]) (F__law_both : FnG P w K mg base 1 f__law_both d__law_both ["one", "other"] (SpM (fun p : (List Int) × (List Int) × Unit => [.fz ((eT eInt) p.1), .fz ((eT eInt) p.2.1)]) (eT eInt) (fun p : (List Int) × (List Int) × Unit => m__law_both p.1 p.2.1))) :
    FnG P w K mg base 2 f fd ["lines", "m", "value"] (SpM (fun p : (List (List Int)) × Int × PyData × Unit => [.fz ((eT (eT eInt)) p.1), .fz (eInt p.2.1), .fz (eD p.2.2.1)]) eD (fun p : (List (List Int)) × Int × PyData × Unit => m__law_fault p.1 p.2.1 p.2.2.1)) := by
  refine g_ok F sc__law_fault (fun p : (List (List Int)) × Int × PyData × Unit => [.fz ((eT (eT eInt)) p.1), .fz (eInt p.2.1), .fz (eD p.2.2.1)]) eD (fun p : (List (List Int)) × Int × PyData × Unit => m__law_fault p.1 p.2.1 p.2.2.1) (fun p => [.fz ((eT (eT eInt)) p.1), .fz (eInt p.2.1), .fz (eD p.2.2.1), .un, .un, .un, .un, .un, .un, .un, .un, .un, .un, .un]) (fun _ => rfl) (fun _ => rfl) ?_
  intro cdv A above s H E R p hG hr
  obtain ⟨v_lines, v_m, v_value, uu⟩ := p
  have sc := sc__law_fault
  exact (s_step (Γ1 := fun (r1 : (Int × (List (List Int)) × Unit)) => [.fz ((eT (eT eInt)) v_lines), .fz (eInt v_m), .fz (eD v_value), .fz (eInt r1.1), .fz ((eL (eT eInt)) r1.2.1), .un, .un, .un, .un, .un, .un, .un, .un, .un]) (q_asg (set := (st2 3 eInt 4 (eL (eT eInt)))) (e_tup (eC eInt (eC (eL (eT eInt)) eU)) (a_cons (e_lenT B.b_len bt_len (e_var 0 (eT (eT eInt)) v_lines)) (a_cons (e_c2 (F__law_some.mono (by decide)) hG hr C__law_some.mg C__law_some.kp C__law_some.bd (e_var 1 eInt v_m) e_int) a_nil)) (hl := fun _ => (by decide : 2 ≤ sizeLine))) (g2 3 4 eInt (eL (eT eInt)) rfl sc.nd) noow2) (fun (r1 : (Int × (List (List Int)) × Unit)) => (s_ifret1 (w_t (w_or (t_not (t_val (e_isi (ea := eD) (fun K d => kit_tuple d) B.b_isinstance B.b_tuple bt_tuple (e_var 2 eD v_value)))) (w_or (t_lt (e_lenT B.b_len bt_len (e_dTup (e_var 2 eD v_value))) e_int) (w_or1 (t_ninZ hr (e_ixT (e_dTup (e_var 2 eD v_value)) e_int) (e_enc (eb := (eT eStr)) (fun p : (Str × Str × Unit) => [p.1, p.2.1]) (e_tup (eC eStr (eC eStr eU)) (a_cons e_str (a_cons e_str a_nil)) (hl := fun _ => (by decide : 2 ≤ sizeLine))) (fun _ => rfl))))))) (s_ret0 (e_enc (eb := eD) (fun x => (eP (eC eStr eU)) x) (e_tup (eC eStr eU) (a_cons e_str a_nil) (hl := fun _ => (by decide : 1 ≤ sizeLine))) (fun _ => rfl))) (s_ifret1 (t_eqZ hr (e_ixT (e_dTup (e_var 2 eD v_value)) e_int) e_str) (s_ifret1 (w_t (w_or (t_neI (e_lenT B.b_len bt_len (e_dTup (e_var 2 eD v_value))) e_int) (w_or1 (t_not (t_val (e_b1 (ea := (eL eBool)) (ec := eBool) (f := fun x => some (x.all id)) (cr_all rfl) v_all B.b_all bt_all (f_e (f_lc (set := (st1 13 eD)) (is := [13]) [("one", 13)] (fun (y49 : PyData) => (pureM true)) (fun (y49 : PyData) => (Pz.bindM (pureM y49) fun (x50 : PyData) => m__law_is_count x50)) rfl sc.nd (i_tup (e_slT (e_dTup (e_var 2 eD v_value)) (p_some e_int) p_none)) (blkOk_by (N := N__law_fault) (sc := (defScope s__law_fault)) (by decide +kernel)) (fun _ _ _ _ _ => (g1 13 eD sc.nd)) (fun _ _ _ _ _ (y49 : PyData) => c_nil) (fun _ _ _ _ _ (y49 : PyData) => (e_c1 (F__law_is_count.mono (by decide)) hG hr C__law_is_count.mg C__law_is_count.kp C__law_is_count.bd (e_var 13 eD y49))) noow1 sm1 (fun _ h => h) (noOw rfl))))))))) (s_ret0 (e_enc (eb := eD) (fun x => (eP (eC eStr eU)) x) (e_tup (eC eStr eU) (a_cons e_str a_nil) (hl := fun _ => (by decide : 1 ≤ sizeLine))) (fun _ => rfl))) (s_step (Γ1 := fun (r59 : (PyData × PyData × PyData × PyData × Unit)) => [.fz ((eT (eT eInt)) v_lines), .fz (eInt v_m), .fz (eD v_value), .fz (eInt r1.1), .fz ((eL (eT eInt)) r1.2.1), .fz (eD r59.1), .fz (eD r59.2.1), .fz (eD r59.2.2.1), .fz (eD r59.2.2.2.1), .un, .un, .un, .un, .un]) (q_asg (set := _) (e_of4 (e_slT (e_dTup (e_var 2 eD v_value)) (p_some e_int) p_none)) (g_tup (n := 4) rfl (gs_cons (g1 5 eD sc.nd) (gs_cons (g1 6 eD sc.nd) (gs_cons (g1 7 eD sc.nd) (gs_cons (g1 8 eD sc.nd) gs_nil noow1) noow1) noow1) noow1)) (fun _ _ _ _ e => (set_noow _ _ (set_noow _ _ (set_noow _ _ (set_noow _ _ e)))))) (fun (r59 : (PyData × PyData × PyData × PyData × Unit)) => (s_ifret1 (w_t (w_or (t_not (t_chain (f := (fun x y => some (decide (x < y)))) (g := (fun x y => some (decide (x < y)))) op_lt op_lt v_cmp2 v_cmp2 (e_dInt (e_var 5 eD r59.1)) (e_dInt (e_var 6 eD r59.2.1)) (e_var 3 eInt r1.1))) (w_or1 (t_not (t_chain (f := (fun x y => some (decide (x < y)))) (g := (fun x y => some (decide (x < y)))) op_lt op_lt v_cmp2 v_cmp2 (e_dInt (e_var 7 eD r59.2.2.1)) (e_dInt (e_var 8 eD r59.2.2.2.1)) (e_var 1 eInt v_m)))))) (s_ret0 (e_enc (eb := eD) (fun x => (eP (eC eStr eU)) x) (e_tup (eC eStr eU) (a_cons e_str a_nil) (hl := fun _ => (by decide : 1 ≤ sizeLine))) (fun _ => rfl))) (s_step1 (er := eD) (Γ1 := (fun (b : Unit) => [.fz ((eT (eT eInt)) v_lines), .fz (eInt v_m), .fz (eD v_value), .fz (eInt r1.1), .fz ((eL (eT eInt)) r1.2.1), .fz (eD r59.1), .fz (eD r59.2.1), .fz (eD r59.2.2.1), .fz (eD r59.2.2.2.1), .un, .un, .un, .un, .un])) (q_forO (er := eD) (set := (st2 9 eD 10 eD)) (is := [9, 10]) (fun (b : Unit) => [.fz ((eT (eT eInt)) v_lines), .fz (eInt v_m), .fz (eD v_value), .fz (eInt r1.1), .fz ((eL (eT eInt)) r1.2.1), .fz (eD r59.1), .fz (eD r59.2.1), .fz (eD r59.2.2.1), .fz (eD r59.2.2.2.1), .un, .un, .un, .un, .un]) () (fun (b111 : Unit) (y110 : (PyData × PyData × Unit)) => (Pz.bindM (Pz.bindM (pureM y110.2.1) fun (x115 : PyData) => (Pz.bindM (Pz.bindM (pureM v_lines) fun (x113 : (List (List Int))) => (Pz.bindM (Pz.bindM (pureM y110.1) fun (x112 : PyData) => optM (asInt x112)) fun (x114 : Int) => optM (atI x113 x114))) fun (x116 : (List Int)) => optM ((inZ (eD x115) ((eT eInt) x116)).map (!·)))) fun (x117 : Bool) => if x117 then Pz.bindM (Pz.bindM (Pz.bindM (pureM ("off" : Str)) fun (x122 : Str) => (Pz.bindM (Pz.bindM (pureM y110.1) fun (x120 : PyData) => (Pz.bindM (Pz.bindM (pureM y110.2.1) fun (x118 : PyData) => (Pz.bindM (pureM ()) fun (x119 : Unit) => pureM (x118, x119))) fun (x121 : (PyData × Unit)) => pureM (x120, x121))) fun (x123 : (PyData × (PyData × Unit))) => pureM (x122, x123))) fun (x124 : (Str × PyData × PyData × Unit)) => pureM ((eP (eC eStr (eC eD (eC eD eU)))) x124)) (fun (x125 : PyData) => pureM (Out.rt x125)) else (pureM (Out.nx ())))) PassesOwn.never rfl (i_tup (e_enc (eb := (eT (eP (eC eD (eC eD eU))))) (fun p : ((PyData × PyData × Unit) × (PyData × PyData × Unit) × (PyData × PyData × Unit) × (PyData × PyData × Unit) × Unit) => [p.1, p.2.1, p.2.2.1, p.2.2.2.1]) (e_tup (eC (eP (eC eD (eC eD eU))) (eC (eP (eC eD (eC eD eU))) (eC (eP (eC eD (eC eD eU))) (eC (eP (eC eD (eC eD eU))) eU)))) (a_cons (e_tup (eC eD (eC eD eU)) (a_cons (e_var 5 eD r59.1) (a_cons (e_var 7 eD r59.2.2.1) a_nil)) (hl := fun _ => (by decide : 2 ≤ sizeLine))) (a_cons (e_tup (eC eD (eC eD eU)) (a_cons (e_var 5 eD r59.1) (a_cons (e_var 8 eD r59.2.2.2.1) a_nil)) (hl := fun _ => (by decide : 2 ≤ sizeLine))) (a_cons (e_tup (eC eD (eC eD eU)) (a_cons (e_var 6 eD r59.2.1) (a_cons (e_var 7 eD r59.2.2.1) a_nil)) (hl := fun _ => (by decide : 2 ≤ sizeLine))) (a_cons (e_tup (eC eD (eC eD eU)) (a_cons (e_var 6 eD r59.2.1) (a_cons (e_var 8 eD r59.2.2.2.1) a_nil)) (hl := fun _ => (by decide : 2 ≤ sizeLine))) a_nil)))) (hl := fun _ => (by decide : 4 ≤ sizeLine))) (fun _ => rfl))) (g2 9 10 eD eD rfl sc.nd) noow2 (.eq (.eq (.eq (.eq (.eq (.eq (.eq (.eq (.eq (.un (.un (.un (.un (.un .nil)))))))))))))) (fun (b111 : Unit) (y110 : (PyData × PyData × Unit)) => (s_ifret2 (Γb := (fun (b : Unit) => [.fz ((eT (eT eInt)) v_lines), .fz (eInt v_m), .fz (eD v_value), .fz (eInt r1.1), .fz ((eL (eT eInt)) r1.2.1), .fz (eD r59.1), .fz (eD r59.2.1), .fz (eD r59.2.2.1), .fz (eD r59.2.2.2.1), .un, .un, .un, .un, .un])) (t_ninZ hr (e_var 10 eD y110.2.1) (e_ixT (e_var 0 (eT (eT eInt)) v_lines) (e_dInt (e_var 9 eD y110.1)))) (s_ret0 (e_enc (eb := eD) (fun x => (eP (eC eStr (eC eD (eC eD eU)))) x) (e_tup (eC eStr (eC eD (eC eD eU))) (a_cons e_str (a_cons (e_var 9 eD y110.1) (a_cons (e_var 10 eD y110.2.1) a_nil))) (hl := fun _ => (by decide : 3 ≤ sizeLine))) (fun _ => rfl))) (s_nilO (Γb := (fun (b : Unit) => [.fz ((eT (eT eInt)) v_lines), .fz (eInt v_m), .fz (eD v_value), .fz (eInt r1.1), .fz ((eL (eT eInt)) r1.2.1), .fz (eD r59.1), .fz (eD r59.2.1), .fz (eD r59.2.2.1), .fz (eD r59.2.2.2.1), .un, .un, .un, .un, .un])) () (.eq (.eq (.eq (.eq (.eq (.eq (.eq (.eq (.eq (.un (.un (.un (.un (.un .nil)))))))))))))))))) (fun (r127 : Unit) => (s_ret0 (e_enc (eb := eD) (fun x => eNon x) e_non (fun _ => rfl))))))))) (s_ifret1 (w_t (w_or (t_neI (e_lenT B.b_len bt_len (e_dTup (e_var 2 eD v_value))) e_int) (w_or (t_not (t_val (e_isi (ea := eD) (fun K d => kit_tuple d) B.b_isinstance B.b_tuple bt_tuple (e_ixT (e_dTup (e_var 2 eD v_value)) e_int)))) (w_or1 (t_neI (e_lenT B.b_len bt_len (e_dTup (e_ixT (e_dTup (e_var 2 eD v_value)) e_int))) (e_len B.b_len bt_len (e_var 4 (eL (eT eInt)) r1.2.1))))))) (s_ret0 (e_enc (eb := eD) (fun x => (eP (eC eStr eU)) x) (e_tup (eC eStr eU) (a_cons e_str a_nil) (hl := fun _ => (by decide : 1 ≤ sizeLine))) (fun _ => rfl))) (s_ifret1 (t_neZ hr (f_e (f_lc (set := (st1 5 eD)) (is := [5]) [("r", 5)] (fun (y156 : PyData) => (Pz.bindM (Pz.bindM (pureM y156) fun (x157 : PyData) => pureM (!isNon x157)) fun (x164 : Bool) => if x164 then (Pz.bindM (Pz.bindM (Pz.bindM (pureM y156) fun (x158 : PyData) => m__law_is_count x158) fun (x162 : Bool) => if x162 then (Pz.bindM (Pz.bindM (pureM y156) fun (x159 : PyData) => optM (asInt x159)) fun (x160 : Int) => (Pz.bindM (pureM r1.1) fun (x161 : Int) => pureM (decide (x160 < x161)))) else pureM false) fun (x163 : Bool) => pureM (!x163)) else pureM false)) (fun (y156 : PyData) => (pureM y156)) rfl sc.nd (i_tup (e_dTup (e_ixT (e_dTup (e_var 2 eD v_value)) e_int))) (blkOk_by (N := N__law_fault) (sc := (defScope s__law_fault)) (by decide +kernel)) (fun _ _ _ _ _ => (g1 5 eD sc.nd)) (fun _ _ _ _ _ (y156 : PyData) => (c_one (w_t (w_and (t_notNd (e_var 5 eD y156)) (w_and1 (t_not (w_t (w_and (t_val (e_c1 (F__law_is_count.mono (by decide)) hG hr C__law_is_count.mg C__law_is_count.kp C__law_is_count.bd (e_var 5 eD y156))) (w_and1 (t_lt (e_dInt (e_var 5 eD y156)) (e_var 3 eInt r1.1))))))))))) (fun _ _ _ _ _ (y156 : PyData) => (e_var 5 eD y156)) noow1 sm1 (fun _ h => h) (noOw rfl))) (f_e (f_list l_nil))) (s_ret0 (e_enc (eb := eD) (fun x => (eP (eC eStr eU)) x) (e_tup (eC eStr eU) (a_cons e_str a_nil) (hl := fun _ => (by decide : 1 ≤ sizeLine))) (fun _ => rfl))) (s_step1 (er := eD) (Γ1 := (fun (b : Unit) => [.fz ((eT (eT eInt)) v_lines), .fz (eInt v_m), .fz (eD v_value), .fz (eInt r1.1), .fz ((eL (eT eInt)) r1.2.1), .un, .un, .un, .un, .un, .un, .un, .un, .un])) (q_forO (er := eD) (set := (st2 11 eInt 5 eD)) (is := [11, 5]) (fun (b : Unit) => [.fz ((eT (eT eInt)) v_lines), .fz (eInt v_m), .fz (eD v_value), .fz (eInt r1.1), .fz ((eL (eT eInt)) r1.2.1), .un, .un, .un, .un, .un, .un, .un, .un, .un]) () (fun (b180 : Unit) (y179 : (Int × PyData × Unit)) => (Pz.bindM (Pz.bindM (Pz.bindM (pureM y179.2.1) fun (x181 : PyData) => pureM (!isNon x181)) fun (x193 : Bool) => if x193 then (Pz.bindM (Pz.bindM (Pz.bindM (pureM r1.2.1) fun (x182 : (List (List Int))) => (Pz.bindM (pureM y179.1) fun (x183 : Int) => optM (atI x182 x183))) fun (x187 : (List Int)) => (Pz.bindM (Pz.bindM (pureM v_lines) fun (x185 : (List (List Int))) => (Pz.bindM (Pz.bindM (pureM y179.2.1) fun (x184 : PyData) => optM (asInt x184)) fun (x186 : Int) => optM (atI x185 x186))) fun (x188 : (List Int)) => m__law_both x187 x188)) fun (x191 : (List Int)) => (Pz.bindM (Pz.bindM (pureM r1.2.1) fun (x189 : (List (List Int))) => (Pz.bindM (pureM y179.1) fun (x190 : Int) => optM (atI x189 x190))) fun (x192 : (List Int)) => pureM (!decide (x191 = x192)))) else pureM false) fun (x194 : Bool) => if x194 then Pz.bindM (Pz.bindM (Pz.bindM (pureM ("off" : Str)) fun (x197 : Str) => (Pz.bindM (Pz.bindM (pureM y179.1) fun (x195 : Int) => (Pz.bindM (pureM ()) fun (x196 : Unit) => pureM (x195, x196))) fun (x198 : (Int × Unit)) => pureM (x197, x198))) fun (x199 : (Str × Int × Unit)) => pureM ((eP (eC eStr (eC eInt eU))) x199)) (fun (x200 : PyData) => pureM (Out.rt x200)) else (pureM (Out.nx ())))) PassesOwn.never rfl (i_enumT B.b_enumerate (e_dTup (e_ixT (e_dTup (e_var 2 eD v_value)) e_int))) (g2 11 5 eInt eD rfl sc.nd) noow2 (.eq (.eq (.eq (.eq (.eq (.un (.un (.un (.un (.un (.un (.un (.un (.un .nil)))))))))))))) (fun (b180 : Unit) (y179 : (Int × PyData × Unit)) => (s_ifret2 (Γb := (fun (b : Unit) => [.fz ((eT (eT eInt)) v_lines), .fz (eInt v_m), .fz (eD v_value), .fz (eInt r1.1), .fz ((eL (eT eInt)) r1.2.1), .un, .un, .un, .un, .un, .un, .un, .un, .un])) (w_t (w_and (t_notNd (e_var 5 eD y179.2.1)) (w_and1 (t_neP (n := 1) hr (Dc.tup Dc.int) (e_c2 (F__law_both.mono (by decide)) hG hr C__law_both.mg C__law_both.kp C__law_both.bd (e_ixL (e_var 4 (eL (eT eInt)) r1.2.1) (e_var 11 eInt y179.1)) (e_ixT (e_var 0 (eT (eT eInt)) v_lines) (e_dInt (e_var 5 eD y179.2.1)))) (e_ixL (e_var 4 (eL (eT eInt)) r1.2.1) (e_var 11 eInt y179.1)))))) (s_ret0 (e_enc (eb := eD) (fun x => (eP (eC eStr (eC eInt eU))) x) (e_tup (eC eStr (eC eInt eU)) (a_cons e_str (a_cons (e_var 11 eInt y179.1) a_nil)) (hl := fun _ => (by decide : 2 ≤ sizeLine))) (fun _ => rfl))) (s_nilO (Γb := (fun (b : Unit) => [.fz ((eT (eT eInt)) v_lines), .fz (eInt v_m), .fz (eD v_value), .fz (eInt r1.1), .fz ((eL (eT eInt)) r1.2.1), .un, .un, .un, .un, .un, .un, .un, .un, .un])) () (.eq (.eq (.eq (.eq (.eq (.un (.un (.un (.un (.un (.un (.un (.un (.un .nil)))))))))))))))))) (fun (r202 : Unit) => (s_step1 (er := eD) (Γ1 := (fun (b : Unit) => [.fz ((eT (eT eInt)) v_lines), .fz (eInt v_m), .fz (eD v_value), .fz (eInt r1.1), .fz ((eL (eT eInt)) r1.2.1), .un, .un, .un, .un, .un, .un, .un, .un, .un])) (q_forO (er := eD) (set := (st2 11 eInt 5 eD)) (is := [11, 5]) (fun (b : Unit) => [.fz ((eT (eT eInt)) v_lines), .fz (eInt v_m), .fz (eD v_value), .fz (eInt r1.1), .fz ((eL (eT eInt)) r1.2.1), .un, .un, .un, .un, .un, .un, .un, .un, .un]) () (fun (b209 : Unit) (y208 : (Int × PyData × Unit)) => (Pz.bindM (Pz.bindM (Pz.bindM (pureM r1.1) fun (x211 : Int) => rangeM 0 x211) fun (x226 : (List Int)) => compM (fun (y212 : Int) => (Pz.bindM (Pz.bindM (pureM y212) fun (x213 : Int) => (Pz.bindM (pureM y208.2.1) fun (x214 : PyData) => optM ((eqZ (eInt x213) (eD x214)).map (!·)))) fun (x225 : Bool) => if x225 then (Pz.bindM (Pz.bindM (Pz.bindM (pureM r1.2.1) fun (x215 : (List (List Int))) => (Pz.bindM (pureM y208.1) fun (x216 : Int) => optM (atI x215 x216))) fun (x219 : (List Int)) => (Pz.bindM (Pz.bindM (pureM v_lines) fun (x217 : (List (List Int))) => (Pz.bindM (pureM y212) fun (x218 : Int) => optM (atI x217 x218))) fun (x220 : (List Int)) => m__law_both x219 x220)) fun (x223 : (List Int)) => (Pz.bindM (Pz.bindM (pureM r1.2.1) fun (x221 : (List (List Int))) => (Pz.bindM (pureM y208.1) fun (x222 : Int) => optM (atI x221 x222))) fun (x224 : (List Int)) => pureM (decide (x223 = x224)))) else pureM false)) (fun (y212 : Int) => (pureM y212)) x226) fun (r210 : (List Int)) => (Pz.bindM (Pz.bindM (pureM r210) fun (x227 : (List Int)) => (Pz.bindM (smallM (pureM ([] : List Int))) fun (x228 : (List Int)) => pureM (!decide (x227 = x228)))) fun (x229 : Bool) => if x229 then Pz.bindM (Pz.bindM (Pz.bindM (pureM ("more" : Str)) fun (x236 : Str) => (Pz.bindM (Pz.bindM (pureM y208.1) fun (x234 : Int) => (Pz.bindM (Pz.bindM (Pz.bindM (pureM r210) fun (x230 : (List Int)) => (Pz.bindM (pureM (0 : Int)) fun (x231 : Int) => optM (atI x230 x231))) fun (x232 : Int) => (Pz.bindM (pureM ()) fun (x233 : Unit) => pureM (x232, x233))) fun (x235 : (Int × Unit)) => pureM (x234, x235))) fun (x237 : (Int × (Int × Unit))) => pureM (x236, x237))) fun (x238 : (Str × Int × Int × Unit)) => pureM ((eP (eC eStr (eC eInt (eC eInt eU)))) x238)) (fun (x239 : PyData) => pureM (Out.rt x239)) else (pureM (Out.nx ()))))) PassesOwn.never rfl (i_enumT B.b_enumerate (e_dTup (e_ixT (e_dTup (e_var 2 eD v_value)) e_int))) (g2 11 5 eInt eD rfl sc.nd) noow2 (.eq (.eq (.eq (.eq (.eq (.un (.un (.un (.un (.un (.un (.un (.un (.un .nil)))))))))))))) (fun (b209 : Unit) (y208 : (Int × PyData × Unit)) => (s_step (Γ1 := fun (r210 : (List Int)) => [.fz ((eT (eT eInt)) v_lines), .fz (eInt v_m), .fz (eD v_value), .fz (eInt r1.1), .fz ((eL (eT eInt)) r1.2.1), .fz (eD y208.2.1), .un, .un, .un, .un, .un, .fz (eInt y208.1), .fz ((eL eInt) r210), .un]) (q_setLcE 12 (set := (st1 6 eInt)) (is := [6]) [("s", 6)] (fun (y212 : Int) => (Pz.bindM (Pz.bindM (pureM y212) fun (x213 : Int) => (Pz.bindM (pureM y208.2.1) fun (x214 : PyData) => optM ((eqZ (eInt x213) (eD x214)).map (!·)))) fun (x225 : Bool) => if x225 then (Pz.bindM (Pz.bindM (Pz.bindM (pureM r1.2.1) fun (x215 : (List (List Int))) => (Pz.bindM (pureM y208.1) fun (x216 : Int) => optM (atI x215 x216))) fun (x219 : (List Int)) => (Pz.bindM (Pz.bindM (pureM v_lines) fun (x217 : (List (List Int))) => (Pz.bindM (pureM y212) fun (x218 : Int) => optM (atI x217 x218))) fun (x220 : (List Int)) => m__law_both x219 x220)) fun (x223 : (List Int)) => (Pz.bindM (Pz.bindM (pureM r1.2.1) fun (x221 : (List (List Int))) => (Pz.bindM (pureM y208.1) fun (x222 : Int) => optM (atI x221 x222))) fun (x224 : (List Int)) => pureM (decide (x223 = x224)))) else pureM false)) (fun (y212 : Int) => (pureM y212)) rfl sc.nd (sw_true rfl rfl rfl (by decide +kernel)) (i_range1 B.b_range (e_var 3 eInt r1.1)) (blkOk_by (N := N__law_fault) (sc := (defScope s__law_fault)) (by decide +kernel)) (fun _ _ _ _ _ => (g1 6 eInt sc.nd)) (fun _ _ _ _ _ (y212 : Int) => (c_one (w_t (w_and (t_neZ hr (e_var 6 eInt y212) (e_var 5 eD y208.2.1)) (w_and1 (t_eqP (n := 1) hr (Dc.tup Dc.int) (e_c2 (F__law_both.mono (by decide)) hG hr C__law_both.mg C__law_both.kp C__law_both.bd (e_ixL (e_var 4 (eL (eT eInt)) r1.2.1) (e_var 11 eInt y208.1)) (e_ixT (e_var 0 (eT (eT eInt)) v_lines) (e_var 6 eInt y212))) (e_ixL (e_var 4 (eL (eT eInt)) r1.2.1) (e_var 11 eInt y208.1)))))))) (fun _ _ _ _ _ (y212 : Int) => (e_var 6 eInt y212)) noow1 sm1 (fun _ h => h) (noOw rfl)) (fun (r210 : (List Int)) => (s_ifret2 (Γb := (fun (b : Unit) => [.fz ((eT (eT eInt)) v_lines), .fz (eInt v_m), .fz (eD v_value), .fz (eInt r1.1), .fz ((eL (eT eInt)) r1.2.1), .un, .un, .un, .un, .un, .un, .un, .un, .un])) (t_neP (n := 1) hr (Dc.lst Dc.int) (e_var 12 (eL eInt) r210) (f_e (f_list l_nil))) (s_ret0 (e_enc (eb := eD) (fun x => (eP (eC eStr (eC eInt (eC eInt eU)))) x) (e_tup (eC eStr (eC eInt (eC eInt eU))) (a_cons e_str (a_cons (e_var 11 eInt y208.1) (a_cons (e_ixL (e_var 12 (eL eInt) r210) e_int) a_nil))) (hl := fun _ => (by decide : 3 ≤ sizeLine))) (fun _ => rfl))) (s_nilO (Γb := (fun (b : Unit) => [.fz ((eT (eT eInt)) v_lines), .fz (eInt v_m), .fz (eD v_value), .fz (eInt r1.1), .fz ((eL (eT eInt)) r1.2.1), .un, .un, .un, .un, .un, .un, .un, .un, .un])) () (.eq (.eq (.eq (.eq (.eq (.un (.un (.un (.un (.un (.un (.un (.un (.un .nil)))))))))))))))))))) (fun (r241 : Unit) => (s_ret0 (e_enc (eb := eD) (fun x => eNon x) e_non (fun _ => rfl)))))))))))))

abbrev s_law : Stmt := topS 22
def N_law : List Str := ["script", "source", "lap", "m", "lines", "n", "shown", "paper", "pairs", "drawn", "some", "k", "odd", "told", "values", "value", "held", "due", "pair"]
theorem sc_law : FnScope N_law ["script"] (defScope s_law) := ⟨rfl, rfl, rfl, by decide +kernel, rfl, by decide +kernel, by decide +kernel⟩
def m_law : M Bool := (Pz.bindM (Pz.bindM (Pz.bindM (pureM (5 : Int)) fun (x1 : Int) => rangeM 0 x1) fun (x408 : (List Int)) => forO (fun (b3 : Unit) (y2 : Int) => (Pz.bindM (Pz.bindM (Pz.bindM (smallM (Pz.bindM (pureM (3 : Int)) fun (x13 : Int) => (Pz.bindM (Pz.bindM (pureM (4 : Int)) fun (x11 : Int) => (Pz.bindM (Pz.bindM (pureM (5 : Int)) fun (x9 : Int) => (Pz.bindM (Pz.bindM (pureM (7 : Int)) fun (x7 : Int) => (Pz.bindM (Pz.bindM (pureM (9 : Int)) fun (x5 : Int) => (Pz.bindM (pureM ([] : List Int)) fun (x6 : (List Int)) => pureM (x5 :: x6))) fun (x8 : (List Int)) => pureM (x7 :: x8))) fun (x10 : (List Int)) => pureM (x9 :: x10))) fun (x12 : (List Int)) => pureM (x11 :: x12))) fun (x14 : (List Int)) => pureM (x13 :: x14)))) fun (x15 : (List Int)) => (Pz.bindM (pureM y2) fun (x16 : Int) => optM (atI x15 x16))) fun (x17 : Int) => m__law_pick x17) fun (r4 : Int) => (Pz.bindM (Pz.bindM (pureM r4) fun (x19 : Int) => (Pz.bindM (pureM (8 : Int)) fun (x20 : Int) => m__law_draw x19 x20)) fun (r18 : (List (List Int))) => (Pz.bindM (Pz.bindM (Pz.bindM (pureM r18) fun (x22 : (List (List Int))) => pureM (x22.length : Int)) fun (x34 : Int) => (Pz.bindM (Pz.bindM (Pz.bindM (pureM r18) fun (x23 : (List (List Int))) => optM (reprO ((eT (eT eInt)) x23))) fun (x32 : Str) => (Pz.bindM (Pz.bindM (Pz.bindM (pureM r18) fun (x24 : (List (List Int))) => (Pz.bindM (pureM r4) fun (x25 : Int) => m_ring_paper x24 x25)) fun (x30 : PyData) => (Pz.bindM (Pz.bindM (Pz.bindM (pureM r4) fun (x26 : Int) => (Pz.bindM (pureM (2 : Int)) fun (x27 : Int) => m__law_some x26 x27)) fun (x28 : (List (List Int))) => (Pz.bindM (pureM ()) fun (x29 : Unit) => pureM (x28, x29))) fun (x31 : ((List (List Int)) × Unit)) => pureM (x30, x31))) fun (x33 : (PyData × ((List (List Int)) × Unit))) => pureM (x32, x33))) fun (x35 : (Str × (PyData × ((List (List Int)) × Unit)))) => pureM (x34, x35))) fun (r21 : (Int × Str × PyData × (List (List Int)) × Unit)) => (Pz.bindM (Pz.bindM (Pz.bindM (Pz.bindM (Pz.bindM (Pz.bindM (pureM r21.2.2.1) fun (x36 : PyData) => optM (asTup x36)) fun (x37 : (List PyData)) => (Pz.bindM (pureM (0 : Int)) fun (x38 : Int) => optM (atI x37 x38))) fun (x39 : PyData) => (Pz.bindM (pureM ("pairs" : Str)) fun (x40 : Str) => optM (eqZ (eD x39) (eStr x40)))) fun (x42 : Bool) => (Pz.bindM (Pz.bindM (pureM r18) fun (x41 : (List (List Int))) => m__law_is_open x41) fun (x43 : Bool) => pureM (!decide (x42 = x43)))) fun (x48 : Bool) => if x48 then pureM true else (Pz.bindM (Pz.bindM (pureM r18) fun (x44 : (List (List Int))) => (Pz.bindM (pureM r4) fun (x45 : Int) => (Pz.bindM (pureM r21.2.2.1) fun (x46 : PyData) => m__law_fault x44 x45 x46))) fun (x47 : PyData) => pureM (!isNon x47))) fun (x49 : Bool) => if x49 then Pz.bindM (pureM false) (fun (x407 : Bool) => pureM (Out.rt x407)) else (Pz.bindM (Pz.bindM (Pz.bindM (pureM r21.2.2.2.1) fun (x67 : (List (List Int))) => compM (fun (y51 : (List Int)) => (pureM true)) (fun (y51 : (List Int)) => (Pz.bindM (smallM (Pz.bindM (Pz.bindM (pureM ()) fun (x61 : Unit) => pureM (none : (Option Int))) fun (x62 : (Option Int)) => (Pz.bindM (Pz.bindM (Pz.bindM (Pz.bindM (Pz.bindM (pureM (1 : Int)) fun (x55 : Int) => (Pz.bindM (pureM r21.1) fun (x56 : Int) => optM (some (max x55 x56)))) fun (x57 : Int) => m__law_pick x57) fun (x58 : Int) => pureM (some x58)) fun (x59 : (Option Int)) => (Pz.bindM (pureM ([] : List (Option Int))) fun (x60 : (List (Option Int))) => pureM (x59 :: x60))) fun (x63 : (List (Option Int))) => pureM (x62 :: x63)))) fun (x65 : (List (Option Int))) => (Pz.bindM (Pz.bindM (pureM (2 : Int)) fun (x64 : Int) => m__law_pick x64) fun (x66 : Int) => optM (atI x65 x66)))) x67) fun (x68 : (List (Option Int))) => optM (some x68)) fun (r50 : (List (Option Int))) => (Pz.bindM (Pz.bindM (smallM (Pz.bindM (Pz.bindM (Pz.bindM (pureM (1 : Int)) fun (x81 : Int) => (Pz.bindM (pureM r21.1) fun (x82 : Int) => optM (some (max x81 x82)))) fun (x83 : Int) => m__law_pick x83) fun (x84 : Int) => (Pz.bindM (Pz.bindM (Pz.bindM (Pz.bindM (pureM (1 : Int)) fun (x76 : Int) => (Pz.bindM (pureM r21.1) fun (x77 : Int) => optM (some (max x76 x77)))) fun (x78 : Int) => m__law_pick x78) fun (x79 : Int) => (Pz.bindM (pureM ([] : List Int)) fun (x80 : (List Int)) => pureM (x79 :: x80))) fun (x85 : (List Int)) => pureM (x84 :: x85)))) fun (x86 : (List Int)) => optM (some x86)) fun (r69 : (List Int)) => (Pz.bindM (Pz.bindM (pureM r69) fun (x99 : (List Int)) => (Pz.bindM (Pz.bindM (Pz.bindM (Pz.bindM (Pz.bindM (pureM (1 : Int)) fun (x88 : Int) => (Pz.bindM (pureM r4) fun (x89 : Int) => optM (some (max x88 x89)))) fun (x90 : Int) => m__law_pick x90) fun (x96 : Int) => (Pz.bindM (Pz.bindM (Pz.bindM (Pz.bindM (pureM (1 : Int)) fun (x91 : Int) => (Pz.bindM (pureM r4) fun (x92 : Int) => optM (some (max x91 x92)))) fun (x93 : Int) => m__law_pick x93) fun (x94 : Int) => (Pz.bindM (pureM ()) fun (x95 : Unit) => pureM (x94, x95))) fun (x97 : (Int × Unit)) => pureM (x96, x97))) fun (x98 : (Int × Int × Unit)) => pureM ((fun p : (Int × Int × Unit) => [p.1, p.2.1]) x98)) fun (x100 : (List Int)) => optM (catO x99 x100))) fun (r87 : (List Int)) => (Pz.bindM (Pz.bindM (Pz.bindM (pureM (1 : Int)) fun (x103 : Int) => (Pz.bindM (Pz.bindM (pureM r21.2.2.2.1) fun (x102 : (List (List Int))) => pureM (x102.length : Int)) fun (x104 : Int) => optM (some (max x103 x104)))) fun (x105 : Int) => m__law_pick x105) fun (r101 : Int) => (Pz.bindM (Pz.bindM (smallM (Pz.bindM (Pz.bindM (pureM ()) fun (x149 : Unit) => pureM (eNon x149)) fun (x150 : PyData) => (Pz.bindM (Pz.bindM (Pz.bindM (pureM ()) fun (x146 : (Unit)) => pureM ((eP eU) x146)) fun (x147 : PyData) => (Pz.bindM (Pz.bindM (Pz.bindM (pureM (0 : Int)) fun (x143 : Int) => pureM (eInt x143)) fun (x144 : PyData) => (Pz.bindM (Pz.bindM (Pz.bindM (pureM ("ring" : Str)) fun (x140 : Str) => pureM (eStr x140)) fun (x141 : PyData) => (Pz.bindM (Pz.bindM (Pz.bindM (Pz.bindM (pureM (0 : Int)) fun (x135 : Int) => (Pz.bindM (Pz.bindM (pureM r21.1) fun (x133 : Int) => (Pz.bindM (pureM ()) fun (x134 : Unit) => pureM (x133, x134))) fun (x136 : (Int × Unit)) => pureM (x135, x136))) fun (x137 : (Int × Int × Unit)) => pureM ((eP (eC eInt (eC eInt eU))) x137)) fun (x138 : PyData) => (Pz.bindM (Pz.bindM (Pz.bindM (smallM (Pz.bindM (pureM (0 : Int)) fun (x128 : Int) => (Pz.bindM (pureM ([] : List Int)) fun (x129 : (List Int)) => pureM (x128 :: x129)))) fun (x130 : (List Int)) => pureM ((eL eInt) x130)) fun (x131 : PyData) => (Pz.bindM (Pz.bindM (Pz.bindM (pureM true) fun (x125 : Bool) => pureM (eBool x125)) fun (x126 : PyData) => (Pz.bindM (Pz.bindM (pureM (PyData.dict [])) fun (x123 : PyData) => (Pz.bindM (Pz.bindM (Pz.bindM (Pz.bindM (pureM (0 : Int)) fun (x118 : Int) => (Pz.bindM (pureM (1 : Int)) fun (x119 : Int) => pureM (x118 - x119))) fun (x120 : Int) => pureM (eInt x120)) fun (x121 : PyData) => (Pz.bindM (Pz.bindM (Pz.bindM (pureM r21.1) fun (x115 : Int) => pureM (eInt x115)) fun (x116 : PyData) => (Pz.bindM (pureM ([] : List PyData)) fun (x117 : (List PyData)) => pureM (x116 :: x117))) fun (x122 : (List PyData)) => pureM (x121 :: x122))) fun (x124 : (List PyData)) => pureM (x123 :: x124))) fun (x127 : (List PyData)) => pureM (x126 :: x127))) fun (x132 : (List PyData)) => pureM (x131 :: x132))) fun (x139 : (List PyData)) => pureM (x138 :: x139))) fun (x142 : (List PyData)) => pureM (x141 :: x142))) fun (x145 : (List PyData)) => pureM (x144 :: x145))) fun (x148 : (List PyData)) => pureM (x147 :: x148))) fun (x151 : (List PyData)) => pureM (x150 :: x151)))) fun (x153 : (List PyData)) => (Pz.bindM (Pz.bindM (pureM (10 : Int)) fun (x152 : Int) => m__law_pick x152) fun (x154 : Int) => optM (atI x153 x154))) fun (r106 : PyData) => (Pz.bindM (Pz.bindM (Pz.bindM (Pz.bindM (Pz.bindM (pureM r21.2.2.1) fun (x156 : PyData) => optM (asTup x156)) fun (x157 : (List PyData)) => (Pz.bindM (pureM (0 : Int)) fun (x158 : Int) => optM (atI x157 x158))) fun (x159 : PyData) => (Pz.bindM (pureM ("pairs" : Str)) fun (x160 : Str) => optM (eqZ (eD x159) (eStr x160)))) fun (x168 : Bool) => if x168 then (Pz.bindM (Pz.bindM (pureM r21.2.2.1) fun (x164 : PyData) => optM (asTup x164)) fun (x165 : (List PyData)) => (Pz.bindM (pureM (1 : Int)) fun (x166 : Int) => optM (atI x165 x166))) else (Pz.bindM (pureM r50) fun (x167 : (List (Option Int))) => pureM ((eT (eO eInt)) x167))) fun (r155 : PyData) => (Pz.bindM (smallM (Pz.bindM (pureM r21.2.2.1) fun (x212 : PyData) => (Pz.bindM (Pz.bindM (Pz.bindM (Pz.bindM (Pz.bindM (pureM r21.2.2.1) fun (x207 : PyData) => optM (asTup x207)) fun (x208 : (List PyData)) => optM (some x208)) fun (x209 : (List PyData)) => pureM ((eL eD) x209)) fun (x210 : PyData) => (Pz.bindM (Pz.bindM (Pz.bindM (Pz.bindM (Pz.bindM (pureM r21.2.2.1) fun (x199 : PyData) => optM (asTup x199)) fun (x201 : (List PyData)) => (Pz.bindM (pureM (none : Option Int)) fun (x202 : (Option Int)) => (Pz.bindM (Pz.bindM (pureM (1 : Int)) fun (x200 : Int) => pureM (some x200)) fun (x203 : (Option Int)) => pureM (cutL x201 x202 x203)))) fun (x204 : (List PyData)) => pureM ((eT eD) x204)) fun (x205 : PyData) => (Pz.bindM (Pz.bindM (Pz.bindM (Pz.bindM (Pz.bindM (pureM r21.2.2.1) fun (x192 : PyData) => optM (asTup x192)) fun (x194 : (List PyData)) => (Pz.bindM (Pz.bindM (Pz.bindM (pureM (0 : Int)) fun (x190 : Int) => (Pz.bindM (pureM ()) fun (x191 : Unit) => pureM (x190, x191))) fun (x193 : (Int × Unit)) => pureM ((fun p : (Int × Unit) => [eInt p.1]) x193)) fun (x195 : (List PyData)) => optM (catO x194 x195))) fun (x196 : (List PyData)) => pureM ((eT eD) x196)) fun (x197 : PyData) => (Pz.bindM (Pz.bindM (Pz.bindM (Pz.bindM (pureM ("pairs" : Str)) fun (x183 : Str) => (Pz.bindM (Pz.bindM (pureM r50) fun (x181 : (List (Option Int))) => (Pz.bindM (pureM ()) fun (x182 : Unit) => pureM (x181, x182))) fun (x184 : ((List (Option Int)) × Unit)) => pureM (x183, x184))) fun (x185 : (Str × (List (Option Int)) × Unit)) => pureM ((eP (eC eStr (eC (eT (eO eInt)) eU))) x185)) fun (x186 : PyData) => (Pz.bindM (Pz.bindM (Pz.bindM (Pz.bindM (Pz.bindM (Pz.bindM (pureM ("ring" : Str)) fun (x172 : Str) => (Pz.bindM (pureM ()) fun (x173 : Unit) => pureM (x172, x173))) fun (x174 : (Str × Unit)) => pureM ((fun p : (Str × Unit) => [eStr p.1]) x174)) fun (x176 : (List PyData)) => (Pz.bindM (Pz.bindM (pureM r87) fun (x175 : (List Int)) => pureM ((List.map eInt) x175)) fun (x177 : (List PyData)) => optM (catO x176 x177))) fun (x178 : (List PyData)) => pureM ((eT eD) x178)) fun (x179 : PyData) => (Pz.bindM (Pz.bindM (pureM r106) fun (x170 : PyData) => (Pz.bindM (pureM ([] : List PyData)) fun (x171 : (List PyData)) => pureM (x170 :: x171))) fun (x180 : (List PyData)) => pureM (x179 :: x180))) fun (x187 : (List PyData)) => pureM (x186 :: x187))) fun (x198 : (List PyData)) => pureM (x197 :: x198))) fun (x206 : (List PyData)) => pureM (x205 :: x206))) fun (x211 : (List PyData)) => pureM (x210 :: x211))) fun (x213 : (List PyData)) => pureM (x212 :: x213)))) fun (r169 : (List PyData)) => (Pz.bindM (Pz.bindM (Pz.bindM (Pz.bindM (pureM ("pairs" : Str)) fun (x217 : Str) => (Pz.bindM (Pz.bindM (pureM r106) fun (x215 : PyData) => (Pz.bindM (pureM ()) fun (x216 : Unit) => pureM (x215, x216))) fun (x218 : (PyData × Unit)) => pureM (x217, x218))) fun (x219 : (Str × PyData × Unit)) => pureM ((eP (eC eStr (eC eD eU))) x219)) fun (x220 : PyData) => appM r169 x220) fun (r214 : (List PyData)) => (Pz.bindM (Pz.bindM (pureM r214) fun (x274 : (List PyData)) => (Pz.bindM (smallM (Pz.bindM (Pz.bindM (Pz.bindM (pureM ("pairs" : Str)) fun (x269 : Str) => (Pz.bindM (Pz.bindM (Pz.bindM (Pz.bindM (Pz.bindM (Pz.bindM (pureM r155) fun (x248 : PyData) => optM (asTup x248)) fun (x250 : (List PyData)) => (Pz.bindM (pureM (none : Option Int)) fun (x251 : (Option Int)) => (Pz.bindM (Pz.bindM (pureM r101) fun (x249 : Int) => pureM (some x249)) fun (x252 : (Option Int)) => pureM (cutL x250 x251 x252)))) fun (x256 : (List PyData)) => (Pz.bindM (Pz.bindM (Pz.bindM (pureM r106) fun (x253 : PyData) => (Pz.bindM (pureM ()) fun (x254 : Unit) => pureM (x253, x254))) fun (x255 : (PyData × Unit)) => pureM ((fun p : (PyData × Unit) => [p.1]) x255)) fun (x257 : (List PyData)) => optM (catO x256 x257))) fun (x265 : (List PyData)) => (Pz.bindM (Pz.bindM (Pz.bindM (pureM r155) fun (x258 : PyData) => optM (asTup x258)) fun (x262 : (List PyData)) => (Pz.bindM (Pz.bindM (Pz.bindM (pureM r101) fun (x259 : Int) => (Pz.bindM (pureM (1 : Int)) fun (x260 : Int) => pureM (x259 + x260))) fun (x261 : Int) => pureM (some x261)) fun (x263 : (Option Int)) => (Pz.bindM (pureM (none : Option Int)) fun (x264 : (Option Int)) => pureM (cutL x262 x263 x264)))) fun (x266 : (List PyData)) => optM (catO x265 x266))) fun (x267 : (List PyData)) => (Pz.bindM (pureM ()) fun (x268 : Unit) => pureM (x267, x268))) fun (x270 : ((List PyData) × Unit)) => pureM (x269, x270))) fun (x271 : (Str × (List PyData) × Unit)) => pureM ((eP (eC eStr (eC (eT eD) eU))) x271)) fun (x272 : PyData) => (Pz.bindM (Pz.bindM (Pz.bindM (Pz.bindM (pureM ("pairs" : Str)) fun (x243 : Str) => (Pz.bindM (Pz.bindM (Pz.bindM (Pz.bindM (Pz.bindM (Pz.bindM (pureM r155) fun (x222 : PyData) => optM (asTup x222)) fun (x224 : (List PyData)) => (Pz.bindM (pureM (none : Option Int)) fun (x225 : (Option Int)) => (Pz.bindM (Pz.bindM (pureM r101) fun (x223 : Int) => pureM (some x223)) fun (x226 : (Option Int)) => pureM (cutL x224 x225 x226)))) fun (x230 : (List PyData)) => (Pz.bindM (Pz.bindM (Pz.bindM (pureM ()) fun (x227 : Unit) => (Pz.bindM (pureM ()) fun (x228 : Unit) => pureM (x227, x228))) fun (x229 : (Unit × Unit)) => pureM ((fun p : (Unit × Unit) => [eNon p.1]) x229)) fun (x231 : (List PyData)) => optM (catO x230 x231))) fun (x239 : (List PyData)) => (Pz.bindM (Pz.bindM (Pz.bindM (pureM r155) fun (x232 : PyData) => optM (asTup x232)) fun (x236 : (List PyData)) => (Pz.bindM (Pz.bindM (Pz.bindM (pureM r101) fun (x233 : Int) => (Pz.bindM (pureM (1 : Int)) fun (x234 : Int) => pureM (x233 + x234))) fun (x235 : Int) => pureM (some x235)) fun (x237 : (Option Int)) => (Pz.bindM (pureM (none : Option Int)) fun (x238 : (Option Int)) => pureM (cutL x236 x237 x238)))) fun (x240 : (List PyData)) => optM (catO x239 x240))) fun (x241 : (List PyData)) => (Pz.bindM (pureM ()) fun (x242 : Unit) => pureM (x241, x242))) fun (x244 : ((List PyData) × Unit)) => pureM (x243, x244))) fun (x245 : (Str × (List PyData) × Unit)) => pureM ((eP (eC eStr (eC (eT eD) eU))) x245)) fun (x246 : PyData) => (Pz.bindM (pureM ([] : List PyData)) fun (x247 : (List PyData)) => pureM (x246 :: x247))) fun (x273 : (List PyData)) => pureM (x272 :: x273)))) fun (x275 : (List PyData)) => optM (catO x274 x275))) fun (r221 : (List PyData)) => (Pz.bindM (Pz.bindM (pureM r221) fun (x323 : (List PyData)) => (Pz.bindM (smallM (Pz.bindM (Pz.bindM (Pz.bindM (pureM ("ring" : Str)) fun (x318 : Str) => (Pz.bindM (Pz.bindM (pureM (0 : Int)) fun (x316 : Int) => (Pz.bindM (Pz.bindM (pureM (1 : Int)) fun (x314 : Int) => (Pz.bindM (Pz.bindM (pureM (0 : Int)) fun (x312 : Int) => (Pz.bindM (Pz.bindM (pureM (1 : Int)) fun (x310 : Int) => (Pz.bindM (pureM ()) fun (x311 : Unit) => pureM (x310, x311))) fun (x313 : (Int × Unit)) => pureM (x312, x313))) fun (x315 : (Int × (Int × Unit))) => pureM (x314, x315))) fun (x317 : (Int × (Int × (Int × Unit)))) => pureM (x316, x317))) fun (x319 : (Int × (Int × (Int × (Int × Unit))))) => pureM (x318, x319))) fun (x320 : (Str × Int × Int × Int × Int × Unit)) => pureM ((eP (eC eStr (eC eInt (eC eInt (eC eInt (eC eInt eU)))))) x320)) fun (x321 : PyData) => (Pz.bindM (Pz.bindM (Pz.bindM (Pz.bindM (Pz.bindM (Pz.bindM (pureM ("ring" : Str)) fun (x297 : Str) => (Pz.bindM (Pz.bindM (pureM r106) fun (x295 : PyData) => (Pz.bindM (pureM ()) fun (x296 : Unit) => pureM (x295, x296))) fun (x298 : (PyData × Unit)) => pureM (x297, x298))) fun (x303 : (Str × PyData × Unit)) => pureM ((fun p : (Str × PyData × Unit) => [eStr p.1, p.2.1]) x303)) fun (x305 : (List PyData)) => (Pz.bindM (Pz.bindM (Pz.bindM (pureM r87) fun (x300 : (List Int)) => (Pz.bindM (Pz.bindM (pureM (1 : Int)) fun (x299 : Int) => pureM (some x299)) fun (x301 : (Option Int)) => (Pz.bindM (pureM (none : Option Int)) fun (x302 : (Option Int)) => pureM (cutL x300 x301 x302)))) fun (x304 : (List Int)) => pureM ((List.map eInt) x304)) fun (x306 : (List PyData)) => optM (catO x305 x306))) fun (x307 : (List PyData)) => pureM ((eT eD) x307)) fun (x308 : PyData) => (Pz.bindM (Pz.bindM (Pz.bindM (Pz.bindM (Pz.bindM (Pz.bindM (pureM r106) fun (x286 : PyData) => (Pz.bindM (pureM ()) fun (x287 : Unit) => pureM (x286, x287))) fun (x288 : (PyData × Unit)) => pureM ((fun p : (PyData × Unit) => [p.1]) x288)) fun (x290 : (List PyData)) => (Pz.bindM (Pz.bindM (pureM r87) fun (x289 : (List Int)) => pureM ((List.map eInt) x289)) fun (x291 : (List PyData)) => optM (catO x290 x291))) fun (x292 : (List PyData)) => pureM ((eT eD) x292)) fun (x293 : PyData) => (Pz.bindM (Pz.bindM (Pz.bindM (Pz.bindM (pureM ("pairs" : Str)) fun (x281 : Str) => (Pz.bindM (Pz.bindM (Pz.bindM (Pz.bindM (pureM r155) fun (x277 : PyData) => optM (asTup x277)) fun (x278 : (List PyData)) => optM (some x278)) fun (x279 : (List PyData)) => (Pz.bindM (pureM ()) fun (x280 : Unit) => pureM (x279, x280))) fun (x282 : ((List PyData) × Unit)) => pureM (x281, x282))) fun (x283 : (Str × (List PyData) × Unit)) => pureM ((eP (eC eStr (eC (eL eD) eU))) x283)) fun (x284 : PyData) => (Pz.bindM (pureM ([] : List PyData)) fun (x285 : (List PyData)) => pureM (x284 :: x285))) fun (x294 : (List PyData)) => pureM (x293 :: x294))) fun (x309 : (List PyData)) => pureM (x308 :: x309))) fun (x322 : (List PyData)) => pureM (x321 :: x322)))) fun (x324 : (List PyData)) => optM (catO x323 x324))) fun (r276 : (List PyData)) => (Pz.bindM (Pz.bindM (pureM r276) fun (x362 : (List PyData)) => (Pz.bindM (smallM (Pz.bindM (Pz.bindM (Pz.bindM (pureM ("pairs" : Str)) fun (x357 : Str) => (Pz.bindM (Pz.bindM (Pz.bindM (Pz.bindM (pureM r155) fun (x350 : PyData) => optM (asTup x350)) fun (x352 : (List PyData)) => (Pz.bindM (Pz.bindM (pureM (1 : Int)) fun (x351 : Int) => pureM (some x351)) fun (x353 : (Option Int)) => (Pz.bindM (pureM (none : Option Int)) fun (x354 : (Option Int)) => pureM (cutL x352 x353 x354)))) fun (x355 : (List PyData)) => (Pz.bindM (pureM ()) fun (x356 : Unit) => pureM (x355, x356))) fun (x358 : ((List PyData) × Unit)) => pureM (x357, x358))) fun (x359 : (Str × (List PyData) × Unit)) => pureM ((eP (eC eStr (eC (eT eD) eU))) x359)) fun (x360 : PyData) => (Pz.bindM (Pz.bindM (Pz.bindM (Pz.bindM (Pz.bindM (Pz.bindM (pureM ("ring" : Str)) fun (x339 : Str) => (Pz.bindM (pureM ()) fun (x340 : Unit) => pureM (x339, x340))) fun (x343 : (Str × Unit)) => pureM ((fun p : (Str × Unit) => [eStr p.1]) x343)) fun (x345 : (List PyData)) => (Pz.bindM (Pz.bindM (Pz.bindM (Pz.bindM (pureM r87) fun (x341 : (List Int)) => optM (some (srt eInt x341))) fun (x342 : (List Int)) => optM (some x342)) fun (x344 : (List Int)) => pureM ((List.map eInt) x344)) fun (x346 : (List PyData)) => optM (catO x345 x346))) fun (x347 : (List PyData)) => pureM ((eT eD) x347)) fun (x348 : PyData) => (Pz.bindM (Pz.bindM (Pz.bindM (Pz.bindM (pureM ("ring" : Str)) fun (x334 : Str) => (Pz.bindM (Pz.bindM (pureM (0 : Int)) fun (x332 : Int) => (Pz.bindM (Pz.bindM (pureM (2 : Int)) fun (x330 : Int) => (Pz.bindM (Pz.bindM (pureM (1 : Int)) fun (x328 : Int) => (Pz.bindM (Pz.bindM (pureM (2 : Int)) fun (x326 : Int) => (Pz.bindM (pureM ()) fun (x327 : Unit) => pureM (x326, x327))) fun (x329 : (Int × Unit)) => pureM (x328, x329))) fun (x331 : (Int × (Int × Unit))) => pureM (x330, x331))) fun (x333 : (Int × (Int × (Int × Unit)))) => pureM (x332, x333))) fun (x335 : (Int × (Int × (Int × (Int × Unit))))) => pureM (x334, x335))) fun (x336 : (Str × Int × Int × Int × Int × Unit)) => pureM ((eP (eC eStr (eC eInt (eC eInt (eC eInt (eC eInt eU)))))) x336)) fun (x337 : PyData) => (Pz.bindM (pureM ([] : List PyData)) fun (x338 : (List PyData)) => pureM (x337 :: x338))) fun (x349 : (List PyData)) => pureM (x348 :: x349))) fun (x361 : (List PyData)) => pureM (x360 :: x361)))) fun (x363 : (List PyData)) => optM (catO x362 x363))) fun (r325 : (List PyData)) => (Pz.bindM (Pz.bindM (pureM r325) fun (x400 : (List PyData)) => forO (fun (b365 : Unit) (y364 : PyData) => (Pz.bindM (Pz.bindM (Pz.bindM (pureM y364) fun (x367 : PyData) => optM (reprO (eD x367))) fun (x371 : Str) => (Pz.bindM (Pz.bindM (pureM r18) fun (x368 : (List (List Int))) => (Pz.bindM (pureM r4) fun (x369 : Int) => (Pz.bindM (pureM y364) fun (x370 : PyData) => m__law_fault x368 x369 x370))) fun (x372 : PyData) => pureM (x371, x372))) fun (r366 : (Str × PyData)) => (Pz.bindM (Pz.bindM (Pz.bindM (Pz.bindM (Pz.bindM (pureM r18) fun (x373 : (List (List Int))) => (Pz.bindM (pureM r4) fun (x374 : Int) => (Pz.bindM (pureM y364) fun (x375 : PyData) => m_judge_ring x373 x374 x375))) fun (x376 : PyData) => optM (reprO (eD x376))) fun (x378 : Str) => (Pz.bindM (Pz.bindM (pureM r366.2) fun (x377 : PyData) => optM (reprO (eD x377))) fun (x379 : Str) => pureM (!decide (x378 = x379)))) fun (x383 : Bool) => if x383 then pureM true else (Pz.bindM (Pz.bindM (pureM y364) fun (x380 : PyData) => optM (reprO (eD x380))) fun (x381 : Str) => (Pz.bindM (pureM r366.1) fun (x382 : Str) => pureM (!decide (x381 = x382))))) fun (x384 : Bool) => if x384 then Pz.bindM (pureM false) (fun (x399 : Bool) => pureM (Out.rt x399)) else (Pz.bindM (Pz.bindM (Pz.bindM (pureM r366.2) fun (x385 : PyData) => pureM (isNon x385)) fun (x396 : Bool) => if x396 then (Pz.bindM (Pz.bindM (Pz.bindM (pureM y364) fun (x386 : PyData) => optM (asTup x386)) fun (x387 : (List PyData)) => (Pz.bindM (pureM (0 : Int)) fun (x388 : Int) => optM (atI x387 x388))) fun (x394 : PyData) => (Pz.bindM (Pz.bindM (Pz.bindM (pureM r21.2.2.1) fun (x389 : PyData) => optM (asTup x389)) fun (x390 : (List PyData)) => (Pz.bindM (pureM (0 : Int)) fun (x391 : Int) => optM (atI x390 x391))) fun (x395 : PyData) => optM ((eqZ (eD x394) (eD x395)).map (!·)))) else pureM false) fun (x397 : Bool) => if x397 then Pz.bindM (pureM false) (fun (x398 : Bool) => pureM (Out.rt x398)) else (pureM (Out.nx ())))))) x400 ()) fun o => caseO o (fun (r401 : Unit) => (Pz.bindM (Pz.bindM (Pz.bindM (pureM r18) fun (x402 : (List (List Int))) => optM (reprO ((eT (eT eInt)) x402))) fun (x403 : Str) => (Pz.bindM (pureM r21.2.1) fun (x404 : Str) => pureM (!decide (x403 = x404)))) fun (x405 : Bool) => if x405 then Pz.bindM (pureM false) (fun (x406 : Bool) => pureM (Out.rt x406)) else (pureM (Out.nx ())))) (fun r => pureM (Out.rt r))))))))))))))))))) x408 ()) fun o => caseO o (fun (r409 : Unit) => (pureM true)) pureM)
theorem ok_law {f : Addr} {fd : FuncData} (F : Fun K "law" "law" s_law f fd) (B : Bl mg) {fs : Addr} {ds : FuncData} (C : Cal K mg "_law_open_cells" fs ds ["script"]) (Fs : FnG P w K mg base 1 fs ds ["script"] (spSource K))
    {f__law_pick : Addr} {d__law_pick : FuncData} (C__law_pick : Cal K mg "_law_pick" f__law_pick d__law_pick ["source", "most"]) (F__law_pick : FnG P w K mg base 1 f__law_pick d__law_pick ["source", "most"] (SpM (fun p : Int × Unit => [.src, .fz (eInt p.1)]) eInt (fun p => pickM p.1)))
    {f__law_draw : Addr} {d__law_draw : FuncData} (C__law_draw : Cal K mg "_law_draw" f__law_draw d__law_draw ["source", "m", "many"]) (F__law_draw : FnG P w K mg base 3 f__law_draw d__law_draw ["source", "m", "many"] (SpM (fun p : Int × Int × Unit => [.src, .fz (eInt p.1), .fz (eInt p.2.1)]) (eT (eT eInt)) (fun p : Int × Int × Unit => m__law_draw p.1 p.2.1)))
    {f_ring_paper : Addr} {d_ring_paper : FuncData} (C_ring_paper : Cal K mg "ring_paper" f_ring_paper d_ring_paper ["lines", "m"]) (F_ring_paper : FnG P w K mg base 3 f_ring_paper d_ring_paper ["lines", "m"] (SpM (fun p : (List (List Int)) × Int × Unit => [.fz ((eT (eT eInt)) p.1), .fz (eInt p.2.1)]) eD (fun p : (List (List Int)) × Int × Unit => m_ring_paper p.1 p.2.1)))
    {f__law_some : Addr} {d__law_some : FuncData} (C__law_some : Cal K mg "_law_some" f__law_some d__law_some ["m", "s"]) (F__law_some : FnG P w K mg base 1 f__law_some d__law_some ["m", "s"] (SpM (fun p : Int × Int × Unit => [.fz (eInt p.1), .fz (eInt p.2.1)]) (eL (eT eInt)) (fun p : Int × Int × Unit => m__law_some p.1 p.2.1)))
    {f__law_is_open : Addr} {d__law_is_open : FuncData} (C__law_is_open : Cal K mg "_law_is_open" f__law_is_open d__law_is_open ["lines"]) (F__law_is_open : FnG P w K mg base 2 f__law_is_open d__law_is_open ["lines"] (SpM (fun p : (List (List Int)) × Unit => [.fz ((eT (eT eInt)) p.1)]) eBool (fun p : (List (List Int)) × Unit => m__law_is_open p.1)))
    {f__law_fault : Addr} {d__law_fault : FuncData} (C__law_fault : Cal K mg "_law_fault" f__law_fault d__law_fault ["lines", "m", "value"]) (F__law_fault : FnG P w K mg base 2 f__law_fault d__law_fault ["lines", "m", "value"] (SpM (fun p : (List (List Int)) × Int × PyData × Unit => [.fz ((eT (eT eInt)) p.1), .fz (eInt p.2.1), .fz (eD p.2.2.1)]) eD (fun p : (List (List Int)) × Int × PyData × Unit => m__law_fault p.1 p.2.1 p.2.2.1)))
    {f_judge_ring : Addr} {d_judge_ring : FuncData} (C_judge_ring : Cal K mg "judge_ring" f_judge_ring d_judge_ring ["lines", "m", "value"]) (F_judge_ring : FnG P w K mg base 3 f_judge_ring d_judge_ring ["lines", "m", "value"] (SpM (fun p : (List (List Int)) × Int × PyData × Unit => [.fz ((eT (eT eInt)) p.1), .fz (eInt p.2.1), .fz (eD p.2.2.1)]) eD (fun p : (List (List Int)) × Int × PyData × Unit => m_judge_ring p.1 p.2.1 p.2.2.1)))
    (hm : Sat m_law fun r => r = true) :
    FnG P w K mg base 4 f fd ["script"] (SpLaw K) := by
  refine law_ok F sc_law rfl rfl C (Fs.mono (by decide)) m_law (fun st => let ⟨r, u, e, q⟩ := hm st; ⟨u, by rw [e, q]⟩) ⟨by first | exact Or.inl rfl | exact Or.inr rfl, by first | exact Or.inl rfl | exact Or.inr (Or.inl rfl) | exact Or.inr (Or.inr rfl)⟩ (fun _ _ _ _ _ _ => ⟨by decide, rfl, rfl, rfl, by first | exact Or.inl rfl | exact Or.inr rfl⟩) ?_
  intro cdv A above s H E R hG hr
  have sc := sc_law
  exact (s_step1 (er := eBool) (Γ1 := (fun (b : Unit) => [.un, .src, .un, .un, .un, .un, .un, .un, .un, .un, .un, .un, .un, .un, .un, .un, .un, .un, .un])) (q_forO (er := eBool) (set := (st1 2 eInt)) (is := [2]) (fun (b : Unit) => [.un, .src, .un, .un, .un, .un, .un, .un, .un, .un, .un, .un, .un, .un, .un, .un, .un, .un, .un]) () (fun (b3 : Unit) (y2 : Int) => (Pz.bindM (Pz.bindM (Pz.bindM (smallM (Pz.bindM (pureM (3 : Int)) fun (x13 : Int) => (Pz.bindM (Pz.bindM (pureM (4 : Int)) fun (x11 : Int) => (Pz.bindM (Pz.bindM (pureM (5 : Int)) fun (x9 : Int) => (Pz.bindM (Pz.bindM (pureM (7 : Int)) fun (x7 : Int) => (Pz.bindM (Pz.bindM (pureM (9 : Int)) fun (x5 : Int) => (Pz.bindM (pureM ([] : List Int)) fun (x6 : (List Int)) => pureM (x5 :: x6))) fun (x8 : (List Int)) => pureM (x7 :: x8))) fun (x10 : (List Int)) => pureM (x9 :: x10))) fun (x12 : (List Int)) => pureM (x11 :: x12))) fun (x14 : (List Int)) => pureM (x13 :: x14)))) fun (x15 : (List Int)) => (Pz.bindM (pureM y2) fun (x16 : Int) => optM (atI x15 x16))) fun (x17 : Int) => m__law_pick x17) fun (r4 : Int) => (Pz.bindM (Pz.bindM (pureM r4) fun (x19 : Int) => (Pz.bindM (pureM (8 : Int)) fun (x20 : Int) => m__law_draw x19 x20)) fun (r18 : (List (List Int))) => (Pz.bindM (Pz.bindM (Pz.bindM (pureM r18) fun (x22 : (List (List Int))) => pureM (x22.length : Int)) fun (x34 : Int) => (Pz.bindM (Pz.bindM (Pz.bindM (pureM r18) fun (x23 : (List (List Int))) => optM (reprO ((eT (eT eInt)) x23))) fun (x32 : Str) => (Pz.bindM (Pz.bindM (Pz.bindM (pureM r18) fun (x24 : (List (List Int))) => (Pz.bindM (pureM r4) fun (x25 : Int) => m_ring_paper x24 x25)) fun (x30 : PyData) => (Pz.bindM (Pz.bindM (Pz.bindM (pureM r4) fun (x26 : Int) => (Pz.bindM (pureM (2 : Int)) fun (x27 : Int) => m__law_some x26 x27)) fun (x28 : (List (List Int))) => (Pz.bindM (pureM ()) fun (x29 : Unit) => pureM (x28, x29))) fun (x31 : ((List (List Int)) × Unit)) => pureM (x30, x31))) fun (x33 : (PyData × ((List (List Int)) × Unit))) => pureM (x32, x33))) fun (x35 : (Str × (PyData × ((List (List Int)) × Unit)))) => pureM (x34, x35))) fun (r21 : (Int × Str × PyData × (List (List Int)) × Unit)) => (Pz.bindM (Pz.bindM (Pz.bindM (Pz.bindM (Pz.bindM (Pz.bindM (pureM r21.2.2.1) fun (x36 : PyData) => optM (asTup x36)) fun (x37 : (List PyData)) => (Pz.bindM (pureM (0 : Int)) fun (x38 : Int) => optM (atI x37 x38))) fun (x39 : PyData) => (Pz.bindM (pureM ("pairs" : Str)) fun (x40 : Str) => optM (eqZ (eD x39) (eStr x40)))) fun (x42 : Bool) => (Pz.bindM (Pz.bindM (pureM r18) fun (x41 : (List (List Int))) => m__law_is_open x41) fun (x43 : Bool) => pureM (!decide (x42 = x43)))) fun (x48 : Bool) => if x48 then pureM true else (Pz.bindM (Pz.bindM (pureM r18) fun (x44 : (List (List Int))) => (Pz.bindM (pureM r4) fun (x45 : Int) => (Pz.bindM (pureM r21.2.2.1) fun (x46 : PyData) => m__law_fault x44 x45 x46))) fun (x47 : PyData) => pureM (!isNon x47))) fun (x49 : Bool) => if x49 then Pz.bindM (pureM false) (fun (x407 : Bool) => pureM (Out.rt x407)) else (Pz.bindM (Pz.bindM (Pz.bindM (pureM r21.2.2.2.1) fun (x67 : (List (List Int))) => compM (fun (y51 : (List Int)) => (pureM true)) (fun (y51 : (List Int)) => (Pz.bindM (smallM (Pz.bindM (Pz.bindM (pureM ()) fun (x61 : Unit) => pureM (none : (Option Int))) fun (x62 : (Option Int)) => (Pz.bindM (Pz.bindM (Pz.bindM (Pz.bindM (Pz.bindM (pureM (1 : Int)) fun (x55 : Int) => (Pz.bindM (pureM r21.1) fun (x56 : Int) => optM (some (max x55 x56)))) fun (x57 : Int) => m__law_pick x57) fun (x58 : Int) => pureM (some x58)) fun (x59 : (Option Int)) => (Pz.bindM (pureM ([] : List (Option Int))) fun (x60 : (List (Option Int))) => pureM (x59 :: x60))) fun (x63 : (List (Option Int))) => pureM (x62 :: x63)))) fun (x65 : (List (Option Int))) => (Pz.bindM (Pz.bindM (pureM (2 : Int)) fun (x64 : Int) => m__law_pick x64) fun (x66 : Int) => optM (atI x65 x66)))) x67) fun (x68 : (List (Option Int))) => optM (some x68)) fun (r50 : (List (Option Int))) => (Pz.bindM (Pz.bindM (smallM (Pz.bindM (Pz.bindM (Pz.bindM (pureM (1 : Int)) fun (x81 : Int) => (Pz.bindM (pureM r21.1) fun (x82 : Int) => optM (some (max x81 x82)))) fun (x83 : Int) => m__law_pick x83) fun (x84 : Int) => (Pz.bindM (Pz.bindM (Pz.bindM (Pz.bindM (pureM (1 : Int)) fun (x76 : Int) => (Pz.bindM (pureM r21.1) fun (x77 : Int) => optM (some (max x76 x77)))) fun (x78 : Int) => m__law_pick x78) fun (x79 : Int) => (Pz.bindM (pureM ([] : List Int)) fun (x80 : (List Int)) => pureM (x79 :: x80))) fun (x85 : (List Int)) => pureM (x84 :: x85)))) fun (x86 : (List Int)) => optM (some x86)) fun (r69 : (List Int)) => (Pz.bindM (Pz.bindM (pureM r69) fun (x99 : (List Int)) => (Pz.bindM (Pz.bindM (Pz.bindM (Pz.bindM (Pz.bindM (pureM (1 : Int)) fun (x88 : Int) => (Pz.bindM (pureM r4) fun (x89 : Int) => optM (some (max x88 x89)))) fun (x90 : Int) => m__law_pick x90) fun (x96 : Int) => (Pz.bindM (Pz.bindM (Pz.bindM (Pz.bindM (pureM (1 : Int)) fun (x91 : Int) => (Pz.bindM (pureM r4) fun (x92 : Int) => optM (some (max x91 x92)))) fun (x93 : Int) => m__law_pick x93) fun (x94 : Int) => (Pz.bindM (pureM ()) fun (x95 : Unit) => pureM (x94, x95))) fun (x97 : (Int × Unit)) => pureM (x96, x97))) fun (x98 : (Int × Int × Unit)) => pureM ((fun p : (Int × Int × Unit) => [p.1, p.2.1]) x98)) fun (x100 : (List Int)) => optM (catO x99 x100))) fun (r87 : (List Int)) => (Pz.bindM (Pz.bindM (Pz.bindM (pureM (1 : Int)) fun (x103 : Int) => (Pz.bindM (Pz.bindM (pureM r21.2.2.2.1) fun (x102 : (List (List Int))) => pureM (x102.length : Int)) fun (x104 : Int) => optM (some (max x103 x104)))) fun (x105 : Int) => m__law_pick x105) fun (r101 : Int) => (Pz.bindM (Pz.bindM (smallM (Pz.bindM (Pz.bindM (pureM ()) fun (x149 : Unit) => pureM (eNon x149)) fun (x150 : PyData) => (Pz.bindM (Pz.bindM (Pz.bindM (pureM ()) fun (x146 : (Unit)) => pureM ((eP eU) x146)) fun (x147 : PyData) => (Pz.bindM (Pz.bindM (Pz.bindM (pureM (0 : Int)) fun (x143 : Int) => pureM (eInt x143)) fun (x144 : PyData) => (Pz.bindM (Pz.bindM (Pz.bindM (pureM ("ring" : Str)) fun (x140 : Str) => pureM (eStr x140)) fun (x141 : PyData) => (Pz.bindM (Pz.bindM (Pz.bindM (Pz.bindM (pureM (0 : Int)) fun (x135 : Int) => (Pz.bindM (Pz.bindM (pureM r21.1) fun (x133 : Int) => (Pz.bindM (pureM ()) fun (x134 : Unit) => pureM (x133, x134))) fun (x136 : (Int × Unit)) => pureM (x135, x136))) fun (x137 : (Int × Int × Unit)) => pureM ((eP (eC eInt (eC eInt eU))) x137)) fun (x138 : PyData) => (Pz.bindM (Pz.bindM (Pz.bindM (smallM (Pz.bindM (pureM (0 : Int)) fun (x128 : Int) => (Pz.bindM (pureM ([] : List Int)) fun (x129 : (List Int)) => pureM (x128 :: x129)))) fun (x130 : (List Int)) => pureM ((eL eInt) x130)) fun (x131 : PyData) => (Pz.bindM (Pz.bindM (Pz.bindM (pureM true) fun (x125 : Bool) => pureM (eBool x125)) fun (x126 : PyData) => (Pz.bindM (Pz.bindM (pureM (PyData.dict [])) fun (x123 : PyData) => (Pz.bindM (Pz.bindM (Pz.bindM (Pz.bindM (pureM (0 : Int)) fun (x118 : Int) => (Pz.bindM (pureM (1 : Int)) fun (x119 : Int) => pureM (x118 - x119))) fun (x120 : Int) => pureM (eInt x120)) fun (x121 : PyData) => (Pz.bindM (Pz.bindM (Pz.bindM (pureM r21.1) fun (x115 : Int) => pureM (eInt x115)) fun (x116 : PyData) => (Pz.bindM (pureM ([] : List PyData)) fun (x117 : (List PyData)) => pureM (x116 :: x117))) fun (x122 : (List PyData)) => pureM (x121 :: x122))) fun (x124 : (List PyData)) => pureM (x123 :: x124))) fun (x127 : (List PyData)) => pureM (x126 :: x127))) fun (x132 : (List PyData)) => pureM (x131 :: x132))) fun (x139 : (List PyData)) => pureM (x138 :: x139))) fun (x142 : (List PyData)) => pureM (x141 :: x142))) fun (x145 : (List PyData)) => pureM (x144 :: x145))) fun (x148 : (List PyData)) => pureM (x147 :: x148))) fun (x151 : (List PyData)) => pureM (x150 :: x151)))) fun (x153 : (List PyData)) => (Pz.bindM (Pz.bindM (pureM (10 : Int)) fun (x152 : Int) => m__law_pick x152) fun (x154 : Int) => optM (atI x153 x154))) fun (r106 : PyData) => (Pz.bindM (Pz.bindM (Pz.bindM (Pz.bindM (Pz.bindM (pureM r21.2.2.1) fun (x156 : PyData) => optM (asTup x156)) fun (x157 : (List PyData)) => (Pz.bindM (pureM (0 : Int)) fun (x158 : Int) => optM (atI x157 x158))) fun (x159 : PyData) => (Pz.bindM (pureM ("pairs" : Str)) fun (x160 : Str) => optM (eqZ (eD x159) (eStr x160)))) fun (x168 : Bool) => if x168 then (Pz.bindM (Pz.bindM (pureM r21.2.2.1) fun (x164 : PyData) => optM (asTup x164)) fun (x165 : (List PyData)) => (Pz.bindM (pureM (1 : Int)) fun (x166 : Int) => optM (atI x165 x166))) else (Pz.bindM (pureM r50) fun (x167 : (List (Option Int))) => pureM ((eT (eO eInt)) x167))) fun (r155 : PyData) => (Pz.bindM (smallM (Pz.bindM (pureM r21.2.2.1) fun (x212 : PyData) => (Pz.bindM (Pz.bindM (Pz.bindM (Pz.bindM (Pz.bindM (pureM r21.2.2.1) fun (x207 : PyData) => optM (asTup x207)) fun (x208 : (List PyData)) => optM (some x208)) fun (x209 : (List PyData)) => pureM ((eL eD) x209)) fun (x210 : PyData) => (Pz.bindM (Pz.bindM (Pz.bindM (Pz.bindM (Pz.bindM (pureM r21.2.2.1) fun (x199 : PyData) => optM (asTup x199)) fun (x201 : (List PyData)) => (Pz.bindM (pureM (none : Option Int)) fun (x202 : (Option Int)) => (Pz.bindM (Pz.bindM (pureM (1 : Int)) fun (x200 : Int) => pureM (some x200)) fun (x203 : (Option Int)) => pureM (cutL x201 x202 x203)))) fun (x204 : (List PyData)) => pureM ((eT eD) x204)) fun (x205 : PyData) => (Pz.bindM (Pz.bindM (Pz.bindM (Pz.bindM (Pz.bindM (pureM r21.2.2.1) fun (x192 : PyData) => optM (asTup x192)) fun (x194 : (List PyData)) => (Pz.bindM (Pz.bindM (Pz.bindM (pureM (0 : Int)) fun (x190 : Int) => (Pz.bindM (pureM ()) fun (x191 : Unit) => pureM (x190, x191))) fun (x193 : (Int × Unit)) => pureM ((fun p : (Int × Unit) => [eInt p.1]) x193)) fun (x195 : (List PyData)) => optM (catO x194 x195))) fun (x196 : (List PyData)) => pureM ((eT eD) x196)) fun (x197 : PyData) => (Pz.bindM (Pz.bindM (Pz.bindM (Pz.bindM (pureM ("pairs" : Str)) fun (x183 : Str) => (Pz.bindM (Pz.bindM (pureM r50) fun (x181 : (List (Option Int))) => (Pz.bindM (pureM ()) fun (x182 : Unit) => pureM (x181, x182))) fun (x184 : ((List (Option Int)) × Unit)) => pureM (x183, x184))) fun (x185 : (Str × (List (Option Int)) × Unit)) => pureM ((eP (eC eStr (eC (eT (eO eInt)) eU))) x185)) fun (x186 : PyData) => (Pz.bindM (Pz.bindM (Pz.bindM (Pz.bindM (Pz.bindM (Pz.bindM (pureM ("ring" : Str)) fun (x172 : Str) => (Pz.bindM (pureM ()) fun (x173 : Unit) => pureM (x172, x173))) fun (x174 : (Str × Unit)) => pureM ((fun p : (Str × Unit) => [eStr p.1]) x174)) fun (x176 : (List PyData)) => (Pz.bindM (Pz.bindM (pureM r87) fun (x175 : (List Int)) => pureM ((List.map eInt) x175)) fun (x177 : (List PyData)) => optM (catO x176 x177))) fun (x178 : (List PyData)) => pureM ((eT eD) x178)) fun (x179 : PyData) => (Pz.bindM (Pz.bindM (pureM r106) fun (x170 : PyData) => (Pz.bindM (pureM ([] : List PyData)) fun (x171 : (List PyData)) => pureM (x170 :: x171))) fun (x180 : (List PyData)) => pureM (x179 :: x180))) fun (x187 : (List PyData)) => pureM (x186 :: x187))) fun (x198 : (List PyData)) => pureM (x197 :: x198))) fun (x206 : (List PyData)) => pureM (x205 :: x206))) fun (x211 : (List PyData)) => pureM (x210 :: x211))) fun (x213 : (List PyData)) => pureM (x212 :: x213)))) fun (r169 : (List PyData)) => (Pz.bindM (Pz.bindM (Pz.bindM (Pz.bindM (pureM ("pairs" : Str)) fun (x217 : Str) => (Pz.bindM (Pz.bindM (pureM r106) fun (x215 : PyData) => (Pz.bindM (pureM ()) fun (x216 : Unit) => pureM (x215, x216))) fun (x218 : (PyData × Unit)) => pureM (x217, x218))) fun (x219 : (Str × PyData × Unit)) => pureM ((eP (eC eStr (eC eD eU))) x219)) fun (x220 : PyData) => appM r169 x220) fun (r214 : (List PyData)) => (Pz.bindM (Pz.bindM (pureM r214) fun (x274 : (List PyData)) => (Pz.bindM (smallM (Pz.bindM (Pz.bindM (Pz.bindM (pureM ("pairs" : Str)) fun (x269 : Str) => (Pz.bindM (Pz.bindM (Pz.bindM (Pz.bindM (Pz.bindM (Pz.bindM (pureM r155) fun (x248 : PyData) => optM (asTup x248)) fun (x250 : (List PyData)) => (Pz.bindM (pureM (none : Option Int)) fun (x251 : (Option Int)) => (Pz.bindM (Pz.bindM (pureM r101) fun (x249 : Int) => pureM (some x249)) fun (x252 : (Option Int)) => pureM (cutL x250 x251 x252)))) fun (x256 : (List PyData)) => (Pz.bindM (Pz.bindM (Pz.bindM (pureM r106) fun (x253 : PyData) => (Pz.bindM (pureM ()) fun (x254 : Unit) => pureM (x253, x254))) fun (x255 : (PyData × Unit)) => pureM ((fun p : (PyData × Unit) => [p.1]) x255)) fun (x257 : (List PyData)) => optM (catO x256 x257))) fun (x265 : (List PyData)) => (Pz.bindM (Pz.bindM (Pz.bindM (pureM r155) fun (x258 : PyData) => optM (asTup x258)) fun (x262 : (List PyData)) => (Pz.bindM (Pz.bindM (Pz.bindM (pureM r101) fun (x259 : Int) => (Pz.bindM (pureM (1 : Int)) fun (x260 : Int) => pureM (x259 + x260))) fun (x261 : Int) => pureM (some x261)) fun (x263 : (Option Int)) => (Pz.bindM (pureM (none : Option Int)) fun (x264 : (Option Int)) => pureM (cutL x262 x263 x264)))) fun (x266 : (List PyData)) => optM (catO x265 x266))) fun (x267 : (List PyData)) => (Pz.bindM (pureM ()) fun (x268 : Unit) => pureM (x267, x268))) fun (x270 : ((List PyData) × Unit)) => pureM (x269, x270))) fun (x271 : (Str × (List PyData) × Unit)) => pureM ((eP (eC eStr (eC (eT eD) eU))) x271)) fun (x272 : PyData) => (Pz.bindM (Pz.bindM (Pz.bindM (Pz.bindM (pureM ("pairs" : Str)) fun (x243 : Str) => (Pz.bindM (Pz.bindM (Pz.bindM (Pz.bindM (Pz.bindM (Pz.bindM (pureM r155) fun (x222 : PyData) => optM (asTup x222)) fun (x224 : (List PyData)) => (Pz.bindM (pureM (none : Option Int)) fun (x225 : (Option Int)) => (Pz.bindM (Pz.bindM (pureM r101) fun (x223 : Int) => pureM (some x223)) fun (x226 : (Option Int)) => pureM (cutL x224 x225 x226)))) fun (x230 : (List PyData)) => (Pz.bindM (Pz.bindM (Pz.bindM (pureM ()) fun (x227 : Unit) => (Pz.bindM (pureM ()) fun (x228 : Unit) => pureM (x227, x228))) fun (x229 : (Unit × Unit)) => pureM ((fun p : (Unit × Unit) => [eNon p.1]) x229)) fun (x231 : (List PyData)) => optM (catO x230 x231))) fun (x239 : (List PyData)) => (Pz.bindM (Pz.bindM (Pz.bindM (pureM r155) fun (x232 : PyData) => optM (asTup x232)) fun (x236 : (List PyData)) => (Pz.bindM (Pz.bindM (Pz.bindM (pureM r101) fun (x233 : Int) => (Pz.bindM (pureM (1 : Int)) fun (x234 : Int) => pureM (x233 + x234))) fun (x235 : Int) => pureM (some x235)) fun (x237 : (Option Int)) => (Pz.bindM (pureM (none : Option Int)) fun (x238 : (Option Int)) => pureM (cutL x236 x237 x238)))) fun (x240 : (List PyData)) => optM (catO x239 x240))) fun (x241 : (List PyData)) => (Pz.bindM (pureM ()) fun (x242 : Unit) => pureM (x241, x242))) fun (x244 : ((List PyData) × Unit)) => pureM (x243, x244))) fun (x245 : (Str × (List PyData) × Unit)) => pureM ((eP (eC eStr (eC (eT eD) eU))) x245)) fun (x246 : PyData) => (Pz.bindM (pureM ([] : List PyData)) fun (x247 : (List PyData)) => pureM (x246 :: x247))) fun (x273 : (List PyData)) => pureM (x272 :: x273)))) fun (x275 : (List PyData)) => optM (catO x274 x275))) fun (r221 : (List PyData)) => (Pz.bindM (Pz.bindM (pureM r221) fun (x323 : (List PyData)) => (Pz.bindM (smallM (Pz.bindM (Pz.bindM (Pz.bindM (pureM ("ring" : Str)) fun (x318 : Str) => (Pz.bindM (Pz.bindM (pureM (0 : Int)) fun (x316 : Int) => (Pz.bindM (Pz.bindM (pureM (1 : Int)) fun (x314 : Int) => (Pz.bindM (Pz.bindM (pureM (0 : Int)) fun (x312 : Int) => (Pz.bindM (Pz.bindM (pureM (1 : Int)) fun (x310 : Int) => (Pz.bindM (pureM ()) fun (x311 : Unit) => pureM (x310, x311))) fun (x313 : (Int × Unit)) => pureM (x312, x313))) fun (x315 : (Int × (Int × Unit))) => pureM (x314, x315))) fun (x317 : (Int × (Int × (Int × Unit)))) => pureM (x316, x317))) fun (x319 : (Int × (Int × (Int × (Int × Unit))))) => pureM (x318, x319))) fun (x320 : (Str × Int × Int × Int × Int × Unit)) => pureM ((eP (eC eStr (eC eInt (eC eInt (eC eInt (eC eInt eU)))))) x320)) fun (x321 : PyData) => (Pz.bindM (Pz.bindM (Pz.bindM (Pz.bindM (Pz.bindM (Pz.bindM (pureM ("ring" : Str)) fun (x297 : Str) => (Pz.bindM (Pz.bindM (pureM r106) fun (x295 : PyData) => (Pz.bindM (pureM ()) fun (x296 : Unit) => pureM (x295, x296))) fun (x298 : (PyData × Unit)) => pureM (x297, x298))) fun (x303 : (Str × PyData × Unit)) => pureM ((fun p : (Str × PyData × Unit) => [eStr p.1, p.2.1]) x303)) fun (x305 : (List PyData)) => (Pz.bindM (Pz.bindM (Pz.bindM (pureM r87) fun (x300 : (List Int)) => (Pz.bindM (Pz.bindM (pureM (1 : Int)) fun (x299 : Int) => pureM (some x299)) fun (x301 : (Option Int)) => (Pz.bindM (pureM (none : Option Int)) fun (x302 : (Option Int)) => pureM (cutL x300 x301 x302)))) fun (x304 : (List Int)) => pureM ((List.map eInt) x304)) fun (x306 : (List PyData)) => optM (catO x305 x306))) fun (x307 : (List PyData)) => pureM ((eT eD) x307)) fun (x308 : PyData) => (Pz.bindM (Pz.bindM (Pz.bindM (Pz.bindM (Pz.bindM (Pz.bindM (pureM r106) fun (x286 : PyData) => (Pz.bindM (pureM ()) fun (x287 : Unit) => pureM (x286, x287))) fun (x288 : (PyData × Unit)) => pureM ((fun p : (PyData × Unit) => [p.1]) x288)) fun (x290 : (List PyData)) => (Pz.bindM (Pz.bindM (pureM r87) fun (x289 : (List Int)) => pureM ((List.map eInt) x289)) fun (x291 : (List PyData)) => optM (catO x290 x291))) fun (x292 : (List PyData)) => pureM ((eT eD) x292)) fun (x293 : PyData) => (Pz.bindM (Pz.bindM (Pz.bindM (Pz.bindM (pureM ("pairs" : Str)) fun (x281 : Str) => (Pz.bindM (Pz.bindM (Pz.bindM (Pz.bindM (pureM r155) fun (x277 : PyData) => optM (asTup x277)) fun (x278 : (List PyData)) => optM (some x278)) fun (x279 : (List PyData)) => (Pz.bindM (pureM ()) fun (x280 : Unit) => pureM (x279, x280))) fun (x282 : ((List PyData) × Unit)) => pureM (x281, x282))) fun (x283 : (Str × (List PyData) × Unit)) => pureM ((eP (eC eStr (eC (eL eD) eU))) x283)) fun (x284 : PyData) => (Pz.bindM (pureM ([] : List PyData)) fun (x285 : (List PyData)) => pureM (x284 :: x285))) fun (x294 : (List PyData)) => pureM (x293 :: x294))) fun (x309 : (List PyData)) => pureM (x308 :: x309))) fun (x322 : (List PyData)) => pureM (x321 :: x322)))) fun (x324 : (List PyData)) => optM (catO x323 x324))) fun (r276 : (List PyData)) => (Pz.bindM (Pz.bindM (pureM r276) fun (x362 : (List PyData)) => (Pz.bindM (smallM (Pz.bindM (Pz.bindM (Pz.bindM (pureM ("pairs" : Str)) fun (x357 : Str) => (Pz.bindM (Pz.bindM (Pz.bindM (Pz.bindM (pureM r155) fun (x350 : PyData) => optM (asTup x350)) fun (x352 : (List PyData)) => (Pz.bindM (Pz.bindM (pureM (1 : Int)) fun (x351 : Int) => pureM (some x351)) fun (x353 : (Option Int)) => (Pz.bindM (pureM (none : Option Int)) fun (x354 : (Option Int)) => pureM (cutL x352 x353 x354)))) fun (x355 : (List PyData)) => (Pz.bindM (pureM ()) fun (x356 : Unit) => pureM (x355, x356))) fun (x358 : ((List PyData) × Unit)) => pureM (x357, x358))) fun (x359 : (Str × (List PyData) × Unit)) => pureM ((eP (eC eStr (eC (eT eD) eU))) x359)) fun (x360 : PyData) => (Pz.bindM (Pz.bindM (Pz.bindM (Pz.bindM (Pz.bindM (Pz.bindM (pureM ("ring" : Str)) fun (x339 : Str) => (Pz.bindM (pureM ()) fun (x340 : Unit) => pureM (x339, x340))) fun (x343 : (Str × Unit)) => pureM ((fun p : (Str × Unit) => [eStr p.1]) x343)) fun (x345 : (List PyData)) => (Pz.bindM (Pz.bindM (Pz.bindM (Pz.bindM (pureM r87) fun (x341 : (List Int)) => optM (some (srt eInt x341))) fun (x342 : (List Int)) => optM (some x342)) fun (x344 : (List Int)) => pureM ((List.map eInt) x344)) fun (x346 : (List PyData)) => optM (catO x345 x346))) fun (x347 : (List PyData)) => pureM ((eT eD) x347)) fun (x348 : PyData) => (Pz.bindM (Pz.bindM (Pz.bindM (Pz.bindM (pureM ("ring" : Str)) fun (x334 : Str) => (Pz.bindM (Pz.bindM (pureM (0 : Int)) fun (x332 : Int) => (Pz.bindM (Pz.bindM (pureM (2 : Int)) fun (x330 : Int) => (Pz.bindM (Pz.bindM (pureM (1 : Int)) fun (x328 : Int) => (Pz.bindM (Pz.bindM (pureM (2 : Int)) fun (x326 : Int) => (Pz.bindM (pureM ()) fun (x327 : Unit) => pureM (x326, x327))) fun (x329 : (Int × Unit)) => pureM (x328, x329))) fun (x331 : (Int × (Int × Unit))) => pureM (x330, x331))) fun (x333 : (Int × (Int × (Int × Unit)))) => pureM (x332, x333))) fun (x335 : (Int × (Int × (Int × (Int × Unit))))) => pureM (x334, x335))) fun (x336 : (Str × Int × Int × Int × Int × Unit)) => pureM ((eP (eC eStr (eC eInt (eC eInt (eC eInt (eC eInt eU)))))) x336)) fun (x337 : PyData) => (Pz.bindM (pureM ([] : List PyData)) fun (x338 : (List PyData)) => pureM (x337 :: x338))) fun (x349 : (List PyData)) => pureM (x348 :: x349))) fun (x361 : (List PyData)) => pureM (x360 :: x361)))) fun (x363 : (List PyData)) => optM (catO x362 x363))) fun (r325 : (List PyData)) => (Pz.bindM (Pz.bindM (pureM r325) fun (x400 : (List PyData)) => forO (fun (b365 : Unit) (y364 : PyData) => (Pz.bindM (Pz.bindM (Pz.bindM (pureM y364) fun (x367 : PyData) => optM (reprO (eD x367))) fun (x371 : Str) => (Pz.bindM (Pz.bindM (pureM r18) fun (x368 : (List (List Int))) => (Pz.bindM (pureM r4) fun (x369 : Int) => (Pz.bindM (pureM y364) fun (x370 : PyData) => m__law_fault x368 x369 x370))) fun (x372 : PyData) => pureM (x371, x372))) fun (r366 : (Str × PyData)) => (Pz.bindM (Pz.bindM (Pz.bindM (Pz.bindM (Pz.bindM (pureM r18) fun (x373 : (List (List Int))) => (Pz.bindM (pureM r4) fun (x374 : Int) => (Pz.bindM (pureM y364) fun (x375 : PyData) => m_judge_ring x373 x374 x375))) fun (x376 : PyData) => optM (reprO (eD x376))) fun (x378 : Str) => (Pz.bindM (Pz.bindM (pureM r366.2) fun (x377 : PyData) => optM (reprO (eD x377))) fun (x379 : Str) => pureM (!decide (x378 = x379)))) fun (x383 : Bool) => if x383 then pureM true else (Pz.bindM (Pz.bindM (pureM y364) fun (x380 : PyData) => optM (reprO (eD x380))) fun (x381 : Str) => (Pz.bindM (pureM r366.1) fun (x382 : Str) => pureM (!decide (x381 = x382))))) fun (x384 : Bool) => if x384 then Pz.bindM (pureM false) (fun (x399 : Bool) => pureM (Out.rt x399)) else (Pz.bindM (Pz.bindM (Pz.bindM (pureM r366.2) fun (x385 : PyData) => pureM (isNon x385)) fun (x396 : Bool) => if x396 then (Pz.bindM (Pz.bindM (Pz.bindM (pureM y364) fun (x386 : PyData) => optM (asTup x386)) fun (x387 : (List PyData)) => (Pz.bindM (pureM (0 : Int)) fun (x388 : Int) => optM (atI x387 x388))) fun (x394 : PyData) => (Pz.bindM (Pz.bindM (Pz.bindM (pureM r21.2.2.1) fun (x389 : PyData) => optM (asTup x389)) fun (x390 : (List PyData)) => (Pz.bindM (pureM (0 : Int)) fun (x391 : Int) => optM (atI x390 x391))) fun (x395 : PyData) => optM ((eqZ (eD x394) (eD x395)).map (!·)))) else pureM false) fun (x397 : Bool) => if x397 then Pz.bindM (pureM false) (fun (x398 : Bool) => pureM (Out.rt x398)) else (pureM (Out.nx ())))))) x400 ()) fun o => caseO o (fun (r401 : Unit) => (Pz.bindM (Pz.bindM (Pz.bindM (pureM r18) fun (x402 : (List (List Int))) => optM (reprO ((eT (eT eInt)) x402))) fun (x403 : Str) => (Pz.bindM (pureM r21.2.1) fun (x404 : Str) => pureM (!decide (x403 = x404)))) fun (x405 : Bool) => if x405 then Pz.bindM (pureM false) (fun (x406 : Bool) => pureM (Out.rt x406)) else (pureM (Out.nx ())))) (fun r => pureM (Out.rt r))))))))))))))))))) PassesOwn.never rfl (i_range1 B.b_range e_int) (g1 2 eInt sc.nd) noow1 (.un (.eq (.un (.un (.un (.un (.un (.un (.un (.un (.un (.un (.un (.un (.un (.un (.un (.un (.un .nil))))))))))))))))))) (fun (b3 : Unit) (y2 : Int) => (s_step (Γ1 := fun (r4 : Int) => [.un, .src, .fz (eInt y2), .fz (eInt r4), .un, .un, .un, .un, .un, .un, .un, .un, .un, .un, .un, .un, .un, .un, .un]) (q_set 3 (e_cs1 1 (F__law_pick.mono (by decide)) hG hr C__law_pick.mg C__law_pick.kp C__law_pick.bd (e_ixL (f_e (f_list (l_cons e_int (l_cons e_int (l_cons e_int (l_cons e_int (l_cons e_int l_nil))))))) (e_var 2 eInt y2))) sc.nd) (fun (r4 : Int) => (s_step (Γ1 := fun (r18 : (List (List Int))) => [.un, .src, .fz (eInt y2), .fz (eInt r4), .fz ((eT (eT eInt)) r18), .un, .un, .un, .un, .un, .un, .un, .un, .un, .un, .un, .un, .un, .un]) (q_set 4 (e_cs2 1 (F__law_draw.mono (by decide)) hG hr C__law_draw.mg C__law_draw.kp C__law_draw.bd (e_var 3 eInt r4) e_int) sc.nd) (fun (r18 : (List (List Int))) => (s_step (Γ1 := fun (r21 : (Int × Str × PyData × (List (List Int)) × Unit)) => [.un, .src, .fz (eInt y2), .fz (eInt r4), .fz ((eT (eT eInt)) r18), .fz (eInt r21.1), .fz (eStr r21.2.1), .fz (eD r21.2.2.1), .fz ((eL (eT eInt)) r21.2.2.2.1), .un, .un, .un, .un, .un, .un, .un, .un, .un, .un]) (q_asg (set := _) (e_tup (eC eInt (eC eStr (eC eD (eC (eL (eT eInt)) eU)))) (a_cons (e_lenT B.b_len bt_len (e_var 4 (eT (eT eInt)) r18)) (a_cons (e_repr (ea := (eT (eT eInt))) hr hG B.b_repr bt_repr (e_var 4 (eT (eT eInt)) r18)) (a_cons (e_c2 (F_ring_paper.mono (by decide)) hG hr C_ring_paper.mg C_ring_paper.kp C_ring_paper.bd (e_var 4 (eT (eT eInt)) r18) (e_var 3 eInt r4)) (a_cons (e_c2 (F__law_some.mono (by decide)) hG hr C__law_some.mg C__law_some.kp C__law_some.bd (e_var 3 eInt r4) e_int) a_nil)))) (hl := fun _ => (by decide : 4 ≤ sizeLine))) (g_tup (n := 4) rfl (gs_cons (g1 5 eInt sc.nd) (gs_cons (g1 6 eStr sc.nd) (gs_cons (g1 7 eD sc.nd) (gs_cons (g1 8 (eL (eT eInt)) sc.nd) gs_nil noow1) noow1) noow1) noow1)) (fun _ _ _ _ e => (set_noow _ _ (set_noow _ _ (set_noow _ _ (set_noow _ _ e)))))) (fun (r21 : (Int × Str × PyData × (List (List Int)) × Unit)) => (s_ifret2 (Γb := (fun (b : Unit) => [.un, .src, .un, .un, .un, .un, .un, .un, .un, .un, .un, .un, .un, .un, .un, .un, .un, .un, .un])) (w_t (w_or (t_neB (e_eqZ hr (e_ixT (e_dTup (e_var 7 eD r21.2.2.1)) e_int) e_str) (e_c1 (F__law_is_open.mono (by decide)) hG hr C__law_is_open.mg C__law_is_open.kp C__law_is_open.bd (e_var 4 (eT (eT eInt)) r18))) (w_or1 (t_notNd (e_c3 (F__law_fault.mono (by decide)) hG hr C__law_fault.mg C__law_fault.kp C__law_fault.bd (e_var 4 (eT (eT eInt)) r18) (e_var 3 eInt r4) (e_var 7 eD r21.2.2.1)))))) (s_ret0 e_bool) (s_step (Γ1 := fun (r50 : (List (Option Int))) => [.un, .src, .fz (eInt y2), .fz (eInt r4), .fz ((eT (eT eInt)) r18), .fz (eInt r21.1), .fz (eStr r21.2.1), .fz (eD r21.2.2.1), .fz ((eL (eT eInt)) r21.2.2.2.1), .fz ((eT (eO eInt)) r50), .un, .un, .un, .un, .un, .un, .un, .un, .un]) (q_set 9 (e_t1 (ea := (eL (eO eInt))) (ec := (eT (eO eInt))) (f := fun x => some x) call_tuple_of v_tupL B.b_tuple bt_tuple (f_e (f_lc (set := (st1 18 (eT eInt))) (is := [18]) [("pair", 18)] (fun (y51 : (List Int)) => (pureM true)) (fun (y51 : (List Int)) => (Pz.bindM (smallM (Pz.bindM (Pz.bindM (pureM ()) fun (x61 : Unit) => pureM (none : (Option Int))) fun (x62 : (Option Int)) => (Pz.bindM (Pz.bindM (Pz.bindM (Pz.bindM (Pz.bindM (pureM (1 : Int)) fun (x55 : Int) => (Pz.bindM (pureM r21.1) fun (x56 : Int) => optM (some (max x55 x56)))) fun (x57 : Int) => m__law_pick x57) fun (x58 : Int) => pureM (some x58)) fun (x59 : (Option Int)) => (Pz.bindM (pureM ([] : List (Option Int))) fun (x60 : (List (Option Int))) => pureM (x59 :: x60))) fun (x63 : (List (Option Int))) => pureM (x62 :: x63)))) fun (x65 : (List (Option Int))) => (Pz.bindM (Pz.bindM (pureM (2 : Int)) fun (x64 : Int) => m__law_pick x64) fun (x66 : Int) => optM (atI x65 x66)))) rfl sc.nd (i_list (e_var 8 (eL (eT eInt)) r21.2.2.2.1)) (blkOk_by (N := N_law) (sc := (defScope s_law)) (by decide +kernel)) (fun _ _ _ _ _ => (g1 18 (eT eInt) sc.nd)) (fun _ _ _ _ _ (y51 : (List Int)) => c_nil) (fun _ _ _ _ _ (y51 : (List Int)) => (e_ixL (f_e (f_list (l_cons (e_enc (eb := (eO eInt)) (fun _ => (none : (Option Int))) e_non (fun _ => rfl)) (l_cons (e_enc (eb := (eO eInt)) some (e_cs1 1 (F__law_pick.mono (by decide)) hG hr C__law_pick.mg C__law_pick.kp C__law_pick.bd (e_b2 (ea := eInt) (eb := eInt) (ec := eInt) (f := fun x y => some (max x y)) (call_max2 rfl) v_max2 B.b_max bt_max e_int (e_var 5 eInt r21.1))) (fun _ => rfl)) l_nil)))) (e_cs1 1 (F__law_pick.mono (by decide)) hG hr C__law_pick.mg C__law_pick.kp C__law_pick.bd e_int))) noow1 sm1 (fun _ h => h) (noOw rfl)))) sc.nd) (fun (r50 : (List (Option Int))) => (s_step (Γ1 := fun (r69 : (List Int)) => [.un, .src, .fz (eInt y2), .fz (eInt r4), .fz ((eT (eT eInt)) r18), .fz (eInt r21.1), .fz (eStr r21.2.1), .fz (eD r21.2.2.1), .fz ((eL (eT eInt)) r21.2.2.2.1), .fz ((eT (eO eInt)) r50), .fz ((eT eInt) r69), .un, .un, .un, .un, .un, .un, .un, .un]) (q_set 10 (e_t1 (ea := (eL eInt)) (ec := (eT eInt)) (f := fun x => some x) call_tuple_of v_tupL B.b_tuple bt_tuple (f_e (f_list (l_cons (e_cs1 1 (F__law_pick.mono (by decide)) hG hr C__law_pick.mg C__law_pick.kp C__law_pick.bd (e_b2 (ea := eInt) (eb := eInt) (ec := eInt) (f := fun x y => some (max x y)) (call_max2 rfl) v_max2 B.b_max bt_max e_int (e_var 5 eInt r21.1))) (l_cons (e_cs1 1 (F__law_pick.mono (by decide)) hG hr C__law_pick.mg C__law_pick.kp C__law_pick.bd (e_b2 (ea := eInt) (eb := eInt) (ec := eInt) (f := fun x y => some (max x y)) (call_max2 rfl) v_max2 B.b_max bt_max e_int (e_var 5 eInt r21.1))) l_nil))))) sc.nd) (fun (r69 : (List Int)) => (s_step (Γ1 := fun (r87 : (List Int)) => [.un, .src, .fz (eInt y2), .fz (eInt r4), .fz ((eT (eT eInt)) r18), .fz (eInt r21.1), .fz (eStr r21.2.1), .fz (eD r21.2.2.1), .fz ((eL (eT eInt)) r21.2.2.2.1), .fz ((eT (eO eInt)) r50), .fz ((eT eInt) r87), .un, .un, .un, .un, .un, .un, .un, .un]) (q_set 10 (e_catT (e_var 10 (eT eInt) r69) (e_enc (eb := (eT eInt)) (fun p : (Int × Int × Unit) => [p.1, p.2.1]) (e_tup (eC eInt (eC eInt eU)) (a_cons (e_cs1 1 (F__law_pick.mono (by decide)) hG hr C__law_pick.mg C__law_pick.kp C__law_pick.bd (e_b2 (ea := eInt) (eb := eInt) (ec := eInt) (f := fun x y => some (max x y)) (call_max2 rfl) v_max2 B.b_max bt_max e_int (e_var 3 eInt r4))) (a_cons (e_cs1 1 (F__law_pick.mono (by decide)) hG hr C__law_pick.mg C__law_pick.kp C__law_pick.bd (e_b2 (ea := eInt) (eb := eInt) (ec := eInt) (f := fun x y => some (max x y)) (call_max2 rfl) v_max2 B.b_max bt_max e_int (e_var 3 eInt r4))) a_nil)) (hl := fun _ => (by decide : 2 ≤ sizeLine))) (fun _ => rfl))) sc.nd) (fun (r87 : (List Int)) => (s_step (Γ1 := fun (r101 : Int) => [.un, .src, .fz (eInt y2), .fz (eInt r4), .fz ((eT (eT eInt)) r18), .fz (eInt r21.1), .fz (eStr r21.2.1), .fz (eD r21.2.2.1), .fz ((eL (eT eInt)) r21.2.2.2.1), .fz ((eT (eO eInt)) r50), .fz ((eT eInt) r87), .fz (eInt r101), .un, .un, .un, .un, .un, .un, .un]) (q_set 11 (e_cs1 1 (F__law_pick.mono (by decide)) hG hr C__law_pick.mg C__law_pick.kp C__law_pick.bd (e_b2 (ea := eInt) (eb := eInt) (ec := eInt) (f := fun x y => some (max x y)) (call_max2 rfl) v_max2 B.b_max bt_max e_int (e_len B.b_len bt_len (e_var 8 (eL (eT eInt)) r21.2.2.2.1)))) sc.nd) (fun (r101 : Int) => (s_step (Γ1 := fun (r106 : PyData) => [.un, .src, .fz (eInt y2), .fz (eInt r4), .fz ((eT (eT eInt)) r18), .fz (eInt r21.1), .fz (eStr r21.2.1), .fz (eD r21.2.2.1), .fz ((eL (eT eInt)) r21.2.2.2.1), .fz ((eT (eO eInt)) r50), .fz ((eT eInt) r87), .fz (eInt r101), .fz (eD r106), .un, .un, .un, .un, .un, .un]) (q_set 12 (e_ixL (f_e (f_list (l_cons (e_enc (eb := eD) (fun x => eNon x) e_non (fun _ => rfl)) (l_cons (e_enc (eb := eD) (fun x => (eP eU) x) (e_tup eU a_nil (hl := fun _ => (by decide : 0 ≤ sizeLine))) (fun _ => rfl)) (l_cons (e_enc (eb := eD) (fun x => eInt x) e_int (fun _ => rfl)) (l_cons (e_enc (eb := eD) (fun x => eStr x) e_str (fun _ => rfl)) (l_cons (e_enc (eb := eD) (fun x => (eP (eC eInt (eC eInt eU))) x) (e_tup (eC eInt (eC eInt eU)) (a_cons e_int (a_cons (e_var 5 eInt r21.1) a_nil)) (hl := fun _ => (by decide : 2 ≤ sizeLine))) (fun _ => rfl)) (l_cons (e_enc (eb := eD) (fun x => (eL eInt) x) (f_e (f_list (l_cons e_int l_nil))) (fun _ => rfl)) (l_cons (e_enc (eb := eD) (fun x => eBool x) e_bool (fun _ => rfl)) (l_cons e_dict0 (l_cons (e_enc (eb := eD) (fun x => eInt x) (e_sub e_int e_int) (fun _ => rfl)) (l_cons (e_enc (eb := eD) (fun x => eInt x) (e_var 5 eInt r21.1) (fun _ => rfl)) l_nil)))))))))))) (e_cs1 1 (F__law_pick.mono (by decide)) hG hr C__law_pick.mg C__law_pick.kp C__law_pick.bd e_int)) sc.nd) (fun (r106 : PyData) => (s_step (Γ1 := fun (r155 : PyData) => [.un, .src, .fz (eInt y2), .fz (eInt r4), .fz ((eT (eT eInt)) r18), .fz (eInt r21.1), .fz (eStr r21.2.1), .fz (eD r21.2.2.1), .fz ((eL (eT eInt)) r21.2.2.2.1), .fz ((eT (eO eInt)) r50), .fz ((eT eInt) r87), .fz (eInt r101), .fz (eD r106), .fz (eD r155), .un, .un, .un, .un, .un]) (q_set 13 (e_if (t_eqZ hr (e_ixT (e_dTup (e_var 7 eD r21.2.2.1)) e_int) e_str) (e_ixT (e_dTup (e_var 7 eD r21.2.2.1)) e_int) (e_enc (eb := eD) (fun x => (eT (eO eInt)) x) (e_var 9 (eT (eO eInt)) r50) (fun _ => rfl))) sc.nd) (fun (r155 : PyData) => (s_step (Γ1 := fun (r169 : (List PyData)) => [.un, .src, .fz (eInt y2), .fz (eInt r4), .fz ((eT (eT eInt)) r18), .fz (eInt r21.1), .fz (eStr r21.2.1), .fz (eD r21.2.2.1), .fz ((eL (eT eInt)) r21.2.2.2.1), .fz ((eT (eO eInt)) r50), .fz ((eT eInt) r87), .fz (eInt r101), .fz (eD r106), .fz (eD r155), .ow ((eL eD) r169), .un, .un, .un, .un]) (q_setF 14 (f_list (l_cons (e_var 7 eD r21.2.2.1) (l_cons (e_enc (eb := eD) (fun x => (eL eD) x) (f_e (f_t1 (ea := (eT eD)) (ec := eD) (f := fun x => some x) call_list_of v_listT B.b_list bt_list (e_dTup (e_var 7 eD r21.2.2.1)))) (fun _ => rfl)) (l_cons (e_enc (eb := eD) (fun x => (eT eD) x) (e_slT (e_dTup (e_var 7 eD r21.2.2.1)) p_none (p_some e_int)) (fun _ => rfl)) (l_cons (e_enc (eb := eD) (fun x => (eT eD) x) (e_catT (e_dTup (e_var 7 eD r21.2.2.1)) (e_enc (eb := (eT eD)) (fun p : (Int × Unit) => [eInt p.1]) (e_tup (eC eInt eU) (a_cons e_int a_nil) (hl := fun _ => (by decide : 1 ≤ sizeLine))) (fun _ => rfl))) (fun _ => rfl)) (l_cons (e_enc (eb := eD) (fun x => (eP (eC eStr (eC (eT (eO eInt)) eU))) x) (e_tup (eC eStr (eC (eT (eO eInt)) eU)) (a_cons e_str (a_cons (e_var 9 (eT (eO eInt)) r50) a_nil)) (hl := fun _ => (by decide : 2 ≤ sizeLine))) (fun _ => rfl)) (l_cons (e_enc (eb := eD) (fun x => (eT eD) x) (e_catT (e_enc (eb := (eT eD)) (fun p : (Str × Unit) => [eStr p.1]) (e_tup (eC eStr eU) (a_cons e_str a_nil) (hl := fun _ => (by decide : 1 ≤ sizeLine))) (fun _ => rfl)) (e_enc (eb := (eT eD)) (List.map eInt) (e_var 10 (eT eInt) r87) (fun x => by simp [eT, eD]))) (fun _ => rfl)) (l_cons (e_var 12 eD r106) l_nil)))))))) sc.nd) (fun (r169 : (List PyData)) => (s_step (Γ1 := fun (r214 : (List PyData)) => [.un, .src, .fz (eInt y2), .fz (eInt r4), .fz ((eT (eT eInt)) r18), .fz (eInt r21.1), .fz (eStr r21.2.1), .fz (eD r21.2.2.1), .fz ((eL (eT eInt)) r21.2.2.2.1), .fz ((eT (eO eInt)) r50), .fz ((eT eInt) r87), .fz (eInt r101), .fz (eD r106), .fz (eD r155), .ow ((eL eD) r214), .un, .un, .un, .un]) (q_app 14 r169 (e_enc (eb := eD) (fun x => (eP (eC eStr (eC eD eU))) x) (e_tup (eC eStr (eC eD eU)) (a_cons e_str (a_cons (e_var 12 eD r106) a_nil)) (hl := fun _ => (by decide : 2 ≤ sizeLine))) (fun _ => rfl))) (fun (r214 : (List PyData)) => (s_low (Γ' := [.un, .src, .fz (eInt y2), .fz (eInt r4), .fz ((eT (eT eInt)) r18), .fz (eInt r21.1), .fz (eStr r21.2.1), .fz (eD r21.2.2.1), .fz ((eL (eT eInt)) r21.2.2.2.1), .fz ((eT (eO eInt)) r50), .fz ((eT eInt) r87), .fz (eInt r101), .fz (eD r106), .fz (eD r155), .fz ((eL eD) r214), .un, .un, .un, .un]) (.un (.eq (.eq (.eq (.eq (.eq (.eq (.eq (.eq (.eq (.eq (.eq (.eq (.eq (.fr (.un (.un (.un (.un .nil))))))))))))))))))) (s_step (Γ1 := fun (r221 : (List PyData)) => [.un, .src, .fz (eInt y2), .fz (eInt r4), .fz ((eT (eT eInt)) r18), .fz (eInt r21.1), .fz (eStr r21.2.1), .fz (eD r21.2.2.1), .fz ((eL (eT eInt)) r21.2.2.2.1), .fz ((eT (eO eInt)) r50), .fz ((eT eInt) r87), .fz (eInt r101), .fz (eD r106), .fz (eD r155), .fz ((eL eD) r221), .un, .un, .un, .un]) (q_set 14 (f_e (f_catL (e_var 14 (eL eD) r214) (f_e (f_list (l_cons (e_enc (eb := eD) (fun x => (eP (eC eStr (eC (eT eD) eU))) x) (e_tup (eC eStr (eC (eT eD) eU)) (a_cons e_str (a_cons (e_catT (e_catT (e_slT (e_dTup (e_var 13 eD r155)) p_none (p_some (e_var 11 eInt r101))) (e_enc (eb := (eT eD)) (fun p : (PyData × Unit) => [p.1]) (e_tup (eC eD eU) (a_cons (e_var 12 eD r106) a_nil) (hl := fun _ => (by decide : 1 ≤ sizeLine))) (fun _ => rfl))) (e_slT (e_dTup (e_var 13 eD r155)) (p_some (e_add (e_var 11 eInt r101) e_int)) p_none)) a_nil)) (hl := fun _ => (by decide : 2 ≤ sizeLine))) (fun _ => rfl)) (l_cons (e_enc (eb := eD) (fun x => (eP (eC eStr (eC (eT eD) eU))) x) (e_tup (eC eStr (eC (eT eD) eU)) (a_cons e_str (a_cons (e_catT (e_catT (e_slT (e_dTup (e_var 13 eD r155)) p_none (p_some (e_var 11 eInt r101))) (e_enc (eb := (eT eD)) (fun p : (Unit × Unit) => [eNon p.1]) (e_tup (eC eNon eU) (a_cons e_non a_nil) (hl := fun _ => (by decide : 1 ≤ sizeLine))) (fun _ => rfl))) (e_slT (e_dTup (e_var 13 eD r155)) (p_some (e_add (e_var 11 eInt r101) e_int)) p_none)) a_nil)) (hl := fun _ => (by decide : 2 ≤ sizeLine))) (fun _ => rfl)) l_nil)))))) sc.nd) (fun (r221 : (List PyData)) => (s_step (Γ1 := fun (r276 : (List PyData)) => [.un, .src, .fz (eInt y2), .fz (eInt r4), .fz ((eT (eT eInt)) r18), .fz (eInt r21.1), .fz (eStr r21.2.1), .fz (eD r21.2.2.1), .fz ((eL (eT eInt)) r21.2.2.2.1), .fz ((eT (eO eInt)) r50), .fz ((eT eInt) r87), .fz (eInt r101), .fz (eD r106), .fz (eD r155), .fz ((eL eD) r276), .un, .un, .un, .un]) (q_set 14 (f_e (f_catL (e_var 14 (eL eD) r221) (f_e (f_list (l_cons (e_enc (eb := eD) (fun x => (eP (eC eStr (eC eInt (eC eInt (eC eInt (eC eInt eU)))))) x) (e_tup (eC eStr (eC eInt (eC eInt (eC eInt (eC eInt eU))))) (a_cons e_str (a_cons e_int (a_cons e_int (a_cons e_int (a_cons e_int a_nil))))) (hl := fun _ => (by decide : 5 ≤ sizeLine))) (fun _ => rfl)) (l_cons (e_enc (eb := eD) (fun x => (eT eD) x) (e_catT (e_enc (eb := (eT eD)) (fun p : (Str × PyData × Unit) => [eStr p.1, p.2.1]) (e_tup (eC eStr (eC eD eU)) (a_cons e_str (a_cons (e_var 12 eD r106) a_nil)) (hl := fun _ => (by decide : 2 ≤ sizeLine))) (fun _ => rfl)) (e_enc (eb := (eT eD)) (List.map eInt) (e_slT (e_var 10 (eT eInt) r87) (p_some e_int) p_none) (fun x => by simp [eT, eD]))) (fun _ => rfl)) (l_cons (e_enc (eb := eD) (fun x => (eT eD) x) (e_catT (e_enc (eb := (eT eD)) (fun p : (PyData × Unit) => [p.1]) (e_tup (eC eD eU) (a_cons (e_var 12 eD r106) a_nil) (hl := fun _ => (by decide : 1 ≤ sizeLine))) (fun _ => rfl)) (e_enc (eb := (eT eD)) (List.map eInt) (e_var 10 (eT eInt) r87) (fun x => by simp [eT, eD]))) (fun _ => rfl)) (l_cons (e_enc (eb := eD) (fun x => (eP (eC eStr (eC (eL eD) eU))) x) (e_tup (eC eStr (eC (eL eD) eU)) (a_cons e_str (a_cons (f_e (f_t1 (ea := (eT eD)) (ec := eD) (f := fun x => some x) call_list_of v_listT B.b_list bt_list (e_dTup (e_var 13 eD r155)))) a_nil)) (hl := fun _ => (by decide : 2 ≤ sizeLine))) (fun _ => rfl)) l_nil)))))))) sc.nd) (fun (r276 : (List PyData)) => (s_step (Γ1 := fun (r325 : (List PyData)) => [.un, .src, .fz (eInt y2), .fz (eInt r4), .fz ((eT (eT eInt)) r18), .fz (eInt r21.1), .fz (eStr r21.2.1), .fz (eD r21.2.2.1), .fz ((eL (eT eInt)) r21.2.2.2.1), .fz ((eT (eO eInt)) r50), .fz ((eT eInt) r87), .fz (eInt r101), .fz (eD r106), .fz (eD r155), .fz ((eL eD) r325), .un, .un, .un, .un]) (q_set 14 (f_e (f_catL (e_var 14 (eL eD) r276) (f_e (f_list (l_cons (e_enc (eb := eD) (fun x => (eP (eC eStr (eC (eT eD) eU))) x) (e_tup (eC eStr (eC (eT eD) eU)) (a_cons e_str (a_cons (e_slT (e_dTup (e_var 13 eD r155)) (p_some e_int) p_none) a_nil)) (hl := fun _ => (by decide : 2 ≤ sizeLine))) (fun _ => rfl)) (l_cons (e_enc (eb := eD) (fun x => (eT eD) x) (e_catT (e_enc (eb := (eT eD)) (fun p : (Str × Unit) => [eStr p.1]) (e_tup (eC eStr eU) (a_cons e_str a_nil) (hl := fun _ => (by decide : 1 ≤ sizeLine))) (fun _ => rfl)) (e_enc (eb := (eT eD)) (List.map eInt) (e_t1 (ea := (eL eInt)) (ec := (eT eInt)) (f := fun x => some x) call_tuple_of v_tupL B.b_tuple bt_tuple (f_e (f_b1 (ea := (eT eInt)) (ec := eInt) (f := fun x => some (srt eInt x)) (call_sortA SrtA.ints hr.units) v_sortAT B.b_sorted bt_sorted (e_var 10 (eT eInt) r87)))) (fun x => by simp [eT, eD]))) (fun _ => rfl)) (l_cons (e_enc (eb := eD) (fun x => (eP (eC eStr (eC eInt (eC eInt (eC eInt (eC eInt eU)))))) x) (e_tup (eC eStr (eC eInt (eC eInt (eC eInt (eC eInt eU))))) (a_cons e_str (a_cons e_int (a_cons e_int (a_cons e_int (a_cons e_int a_nil))))) (hl := fun _ => (by decide : 5 ≤ sizeLine))) (fun _ => rfl)) l_nil))))))) sc.nd) (fun (r325 : (List PyData)) => (s_step2 (er := eBool) (Γ1 := (fun (b : Unit) => [.un, .src, .fz (eInt y2), .fz (eInt r4), .fz ((eT (eT eInt)) r18), .fz (eInt r21.1), .fz (eStr r21.2.1), .fz (eD r21.2.2.1), .fz ((eL (eT eInt)) r21.2.2.2.1), .fz ((eT (eO eInt)) r50), .fz ((eT eInt) r87), .fz (eInt r101), .fz (eD r106), .fz (eD r155), .fz ((eL eD) r325), .un, .un, .un, .un])) (Γb := (fun (b : Unit) => [.un, .src, .un, .un, .un, .un, .un, .un, .un, .un, .un, .un, .un, .un, .un, .un, .un, .un, .un])) (q_forO (er := eBool) (set := (st1 15 eD)) (is := [15]) (fun (b : Unit) => [.un, .src, .fz (eInt y2), .fz (eInt r4), .fz ((eT (eT eInt)) r18), .fz (eInt r21.1), .fz (eStr r21.2.1), .fz (eD r21.2.2.1), .fz ((eL (eT eInt)) r21.2.2.2.1), .fz ((eT (eO eInt)) r50), .fz ((eT eInt) r87), .fz (eInt r101), .fz (eD r106), .fz (eD r155), .fz ((eL eD) r325), .un, .un, .un, .un]) () (fun (b365 : Unit) (y364 : PyData) => (Pz.bindM (Pz.bindM (Pz.bindM (pureM y364) fun (x367 : PyData) => optM (reprO (eD x367))) fun (x371 : Str) => (Pz.bindM (Pz.bindM (pureM r18) fun (x368 : (List (List Int))) => (Pz.bindM (pureM r4) fun (x369 : Int) => (Pz.bindM (pureM y364) fun (x370 : PyData) => m__law_fault x368 x369 x370))) fun (x372 : PyData) => pureM (x371, x372))) fun (r366 : (Str × PyData)) => (Pz.bindM (Pz.bindM (Pz.bindM (Pz.bindM (Pz.bindM (pureM r18) fun (x373 : (List (List Int))) => (Pz.bindM (pureM r4) fun (x374 : Int) => (Pz.bindM (pureM y364) fun (x375 : PyData) => m_judge_ring x373 x374 x375))) fun (x376 : PyData) => optM (reprO (eD x376))) fun (x378 : Str) => (Pz.bindM (Pz.bindM (pureM r366.2) fun (x377 : PyData) => optM (reprO (eD x377))) fun (x379 : Str) => pureM (!decide (x378 = x379)))) fun (x383 : Bool) => if x383 then pureM true else (Pz.bindM (Pz.bindM (pureM y364) fun (x380 : PyData) => optM (reprO (eD x380))) fun (x381 : Str) => (Pz.bindM (pureM r366.1) fun (x382 : Str) => pureM (!decide (x381 = x382))))) fun (x384 : Bool) => if x384 then Pz.bindM (pureM false) (fun (x399 : Bool) => pureM (Out.rt x399)) else (Pz.bindM (Pz.bindM (Pz.bindM (pureM r366.2) fun (x385 : PyData) => pureM (isNon x385)) fun (x396 : Bool) => if x396 then (Pz.bindM (Pz.bindM (Pz.bindM (pureM y364) fun (x386 : PyData) => optM (asTup x386)) fun (x387 : (List PyData)) => (Pz.bindM (pureM (0 : Int)) fun (x388 : Int) => optM (atI x387 x388))) fun (x394 : PyData) => (Pz.bindM (Pz.bindM (Pz.bindM (pureM r21.2.2.1) fun (x389 : PyData) => optM (asTup x389)) fun (x390 : (List PyData)) => (Pz.bindM (pureM (0 : Int)) fun (x391 : Int) => optM (atI x390 x391))) fun (x395 : PyData) => optM ((eqZ (eD x394) (eD x395)).map (!·)))) else pureM false) fun (x397 : Bool) => if x397 then Pz.bindM (pureM false) (fun (x398 : Bool) => pureM (Out.rt x398)) else (pureM (Out.nx ())))))) PassesOwn.never rfl (i_list (e_var 14 (eL eD) r325)) (g1 15 eD sc.nd) noow1 (.un (.eq (.eq (.eq (.eq (.eq (.eq (.eq (.eq (.eq (.eq (.eq (.eq (.eq (.eq (.un (.un (.un (.un .nil))))))))))))))))))) (fun (b365 : Unit) (y364 : PyData) => (s_step (Γ1 := fun (r366 : (Str × PyData)) => [.un, .src, .fz (eInt y2), .fz (eInt r4), .fz ((eT (eT eInt)) r18), .fz (eInt r21.1), .fz (eStr r21.2.1), .fz (eD r21.2.2.1), .fz ((eL (eT eInt)) r21.2.2.2.1), .fz ((eT (eO eInt)) r50), .fz ((eT eInt) r87), .fz (eInt r101), .fz (eD r106), .fz (eD r155), .fz ((eL eD) r325), .fz (eD y364), .fz (eStr r366.1), .fz (eD r366.2), .un]) (q_par2 16 17 (e_repr (ea := eD) hr hG B.b_repr bt_repr (e_var 15 eD y364)) (e_c3 (F__law_fault.mono (by decide)) hG hr C__law_fault.mg C__law_fault.kp C__law_fault.bd (e_var 4 (eT (eT eInt)) r18) (e_var 3 eInt r4) (e_var 15 eD y364)) rfl sc.nd) (fun (r366 : (Str × PyData)) => (s_ifret2 (Γb := (fun (b : Unit) => [.un, .src, .fz (eInt y2), .fz (eInt r4), .fz ((eT (eT eInt)) r18), .fz (eInt r21.1), .fz (eStr r21.2.1), .fz (eD r21.2.2.1), .fz ((eL (eT eInt)) r21.2.2.2.1), .fz ((eT (eO eInt)) r50), .fz ((eT eInt) r87), .fz (eInt r101), .fz (eD r106), .fz (eD r155), .fz ((eL eD) r325), .un, .un, .un, .un])) (w_t (w_or (t_neT (e_repr (ea := eD) hr hG B.b_repr bt_repr (e_c3 (F_judge_ring.mono (by decide)) hG hr C_judge_ring.mg C_judge_ring.kp C_judge_ring.bd (e_var 4 (eT (eT eInt)) r18) (e_var 3 eInt r4) (e_var 15 eD y364))) (e_repr (ea := eD) hr hG B.b_repr bt_repr (e_var 17 eD r366.2))) (w_or1 (t_neT (e_repr (ea := eD) hr hG B.b_repr bt_repr (e_var 15 eD y364)) (e_var 16 eStr r366.1))))) (s_ret0 e_bool) (s_ifret2 (Γb := (fun (b : Unit) => [.un, .src, .fz (eInt y2), .fz (eInt r4), .fz ((eT (eT eInt)) r18), .fz (eInt r21.1), .fz (eStr r21.2.1), .fz (eD r21.2.2.1), .fz ((eL (eT eInt)) r21.2.2.2.1), .fz ((eT (eO eInt)) r50), .fz ((eT eInt) r87), .fz (eInt r101), .fz (eD r106), .fz (eD r155), .fz ((eL eD) r325), .un, .un, .un, .un])) (w_t (w_and (t_isNd (e_var 17 eD r366.2)) (w_and1 (t_neZ hr (e_ixT (e_dTup (e_var 15 eD y364)) e_int) (e_ixT (e_dTup (e_var 7 eD r21.2.2.1)) e_int))))) (s_ret0 e_bool) (s_nilO (Γb := (fun (b : Unit) => [.un, .src, .fz (eInt y2), .fz (eInt r4), .fz ((eT (eT eInt)) r18), .fz (eInt r21.1), .fz (eStr r21.2.1), .fz (eD r21.2.2.1), .fz ((eL (eT eInt)) r21.2.2.2.1), .fz ((eT (eO eInt)) r50), .fz ((eT eInt) r87), .fz (eInt r101), .fz (eD r106), .fz (eD r155), .fz ((eL eD) r325), .un, .un, .un, .un])) () (.un (.eq (.eq (.eq (.eq (.eq (.eq (.eq (.eq (.eq (.eq (.eq (.eq (.eq (.eq (.un (.un (.un (.un .nil)))))))))))))))))))))))))) (fun (r401 : Unit) => (s_ifret2 (Γb := (fun (b : Unit) => [.un, .src, .un, .un, .un, .un, .un, .un, .un, .un, .un, .un, .un, .un, .un, .un, .un, .un, .un])) (t_neT (e_repr (ea := (eT (eT eInt))) hr hG B.b_repr bt_repr (e_var 4 (eT (eT eInt)) r18)) (e_var 6 eStr r21.2.1)) (s_ret0 e_bool) (s_nilO (Γb := (fun (b : Unit) => [.un, .src, .un, .un, .un, .un, .un, .un, .un, .un, .un, .un, .un, .un, .un, .un, .un, .un, .un])) () (.un (.eq (.un (.un (.un (.un (.un (.un (.un (.un (.un (.un (.un (.un (.un (.un (.un (.un (.un .nil))))))))))))))))))))))))))))))))))))))))))))))))))))))) (fun (r409 : Unit) => (s_ret0 e_bool)))

end
end Lw

namespace Lw
open PySem PySem.Spec PyProof.Rows L2 Pz
theorem p_some_lots {m : Int} {s : Nat} (h0 : 0 ≤ m) (h9 : m ≤ 10) (hs : s ≤ 3) : m_some_lots m (s : Int) = pureM (lotsL m s) := by
  unfold m_some_lots
  simp only [bp, bind_ret, optM_some, Pz.bind_assoc]
  simp (disch := first | decide | simp) only [bp, sm100]
  rw [rangeM_sm (lo := 0) (by omega) (by omega) (by omega) (by omega), bp]
  have step : ∀ q : Nat, q ≤ s → forM' (fun (b6 : List (List Int)) (_ : Int) => forM' (fun (b9 : List (List Int)) (y8 : List Int) => Pz.bindM (if (!decide (y8 = [])) = true then Pz.bindM (optM (atI y8 (-1))) fun x21 => pureM (x21 + 1) else pureM 0) fun r10 => Pz.bindM (rangeM r10 m) fun a => Pz.bindM (compM (fun y27 => pureM true) (fun y27 => optM (catO y8 [y27])) a) fun x35 => optM (catO b9 x35)) b6 []) (irange 0 q) [[]] = pureM (lotsL m q) := by
    intro q
    induction q with
    | zero => intro _; rfl
    | succ q ih =>
      intro hq
      have hb := lots_len h9 (q + 1)
      have h3 : 10 ^ (q + 1) ≤ 10 ^ 3 := Nat.pow_le_pow_right (by decide) (by omega)
      rw [show ((q + 1 : Nat) : Int) = (q : Int) + 1 by omega, irange_succ, forM_append, ih (by omega), bp]
      simp only [forM', bind_ret]
      rw [forM_acc (fun l => (irange (nextL l) m).map fun b => l ++ [b]) 16777216 (fun l hm b hb => ?_) ?_]
      · rfl
      · show ([] : List (List Int)).length + (lotsL m (q + 1)).length ≤ _
        simp
        omega
      · have hL := (mem_lotsL.mp hm).1
        have hx := lot_next hL
        have hxn : nextL l ≤ 1000000 := by
          rcases List.eq_nil_or_concat l with rfl | ⟨q, b, rfl⟩
          · decide
          · rw [List.concat_eq_append] at hL ⊢
            rw [nextL_snoc]
            have := (lot_snoc.mp hL).2.2
            omega
        have hll := lot_len hL h0
        rw [next_read, bp, rangeM_sm (by omega) hxn (by omega) (by omega), bp, compM_map (fun b => l ++ [b]) (fun x _ => ?_)]
        · rw [bp, catO_ok (by rw [List.length_map] at hb ⊢; unfold sizeLine; omega), optM_some]
        · rw [catO_ok (by simp [sizeLine]; omega), optM_some]
  exact step s (Nat.le_refl s)
theorem p_law_some {n k : Int} (h0 : 0 ≤ n) (h9 : n ≤ 10) (hk : 0 ≤ k) : m__law_some n k = pureM (lotsL n k.toNat) := by
  unfold m__law_some
  simp only [bp, bind_ret, optM_some, Pz.bind_assoc]
  simp (disch := first | decide | simp) only [bp, sm100]
  rw [rangeM_sm (lo := 0) (by omega) (by omega) (by omega) (by omega), bp]
  obtain ⟨m, rfl⟩ : ∃ m : Nat, n = m := ⟨n.toNat, by omega⟩
  have step : ∀ q : Nat, q ≤ m → forM' (fun (b6 : List (List Int)) (y5 : Int) => Pz.bindM (compM (fun y8 : List Int => pureM (decide ((y8.length : Int) < k))) (fun x15 => optM (catO x15 [y5])) b6) fun x19 => optM (catO b6 x19)) (irange 0 q) [[]] = pureM (lawF k q) := by
    intro q
    induction q with
    | zero => intro _; rfl
    | succ q ih =>
      intro hq
      have hs : ((q + 1 : Nat) : Int) = (q : Int) + 1 := by omega
      rw [hs, irange_succ, forM_append, ih (by omega), bp]
      simp only [forM', bind_ret]
      have hlen : (lawF k q).length ≤ 1024 := Nat.le_trans (lawF_len k q) (by
        have : 2 ^ q ≤ 2 ^ 10 := Nat.pow_le_pow_right (by decide) (by omega)
        omega)
      rw [compM_pure (fun l : List Int => decide ((l.length : Int) < k)) (fun l => l ++ [(q : Int)]) (fun _ _ => rfl) fun l hl _ => ?_]
      · rw [bp, catO_ok ?_, optM_some]
        · rfl
        · rw [List.length_map]
          have := List.length_filter_le (fun l : List Int => decide ((l.length : Int) < k)) (lawF k q)
          unfold sizeLine; omega
      · have hl2 : l.length ≤ q := by
          have hL := ((lawF_mem hk).mp hl).1
          have := lot_len hL (by omega)
          omega
        rw [catO_ok (by simp [sizeLine]; omega), optM_some]
  rw [step m (Nat.le_refl m), bp, compM_pureF (fun l : List Int => decide ((l.length : Int) = k)) (fun _ _ => rfl), bp]
  have hmem : ∀ l, l ∈ (lawF k m).filter (fun l : List Int => decide ((l.length : Int) = k)) ↔ Lot m l ∧ l.length = k.toNat := fun l => by
    rw [List.mem_filter, lawF_mem hk, decide_eq_true_eq]
    constructor
    · rintro ⟨⟨h1, _⟩, h2⟩; exact ⟨h1, by omega⟩
    · rintro ⟨h1, h2⟩; exact ⟨⟨h1, by omega⟩, by omega⟩
  rw [srt_lots ((lawF_nodup hk m).filter _) hmem]
/-! ### lines -/
structure LinesOk (m : Int) (ls : List (List Int)) : Prop where
  m0 : 0 ≤ m
  m9 : m ≤ 9
  few : ls.length ≤ 8
  lot : ∀ l ∈ ls, Lot m l
def lineAt (ls : List (List Int)) (i : Int) : List Int := ls.getD i.toNat []
theorem line_at {ls : List (List Int)} {i : Int} (h0 : 0 ≤ i) (h : i < ls.length) : atI ls i = some (lineAt ls i) := at_getD [] h0 h
theorem line_lot {m : Int} {ls : List (List Int)} (h : LinesOk m ls) {i : Int} (h0 : 0 ≤ i) (hi : i < ls.length) : Lot m (lineAt ls i) := by
  refine h.lot _ ?_
  unfold lineAt
  rw [List.getD_eq_getElem?_getD, List.getElem?_eq_getElem (by omega)]
  exact List.getElem_mem _
def bothL (a b : List Int) : List Int := a.filter fun x => decide (x ∈ b)
theorem p_shared {ls : List (List Int)} {r s : Int} (h0 : 0 ≤ r) (hr : r < ls.length) (h1 : 0 ≤ s) (hs : s < ls.length) : m_shared_points ls r s = pureM (bothL (lineAt ls r) (lineAt ls s)) := by
  unfold m_shared_points
  simp only [bp, bind_ret, optM_some, Pz.bind_assoc]
  rw [line_at h0 hr, optM_some, bp, compM_pureF (fun x => decide (x ∈ lineAt ls s)) fun x _ => ?_]
  · rfl
  · rw [line_at h1 hs, optM_some, bp]
theorem p_both (a b : List Int) : m__law_both a b = pureM (bothL a b) := by
  unfold m__law_both
  simp only [bp, bind_ret, optM_some, Pz.bind_assoc]
  rw [compM_pureF (fun x => decide (x ∈ b)) fun x _ => rfl]
  rfl
def subB (p l : List Int) : Bool := p.all fun x => decide (x ∈ l)
theorem p_through (ls : List (List Int)) (p : List Int) : m_lines_through ls p = pureM ((irange 0 ls.length).filter fun i => subB p (lineAt ls i)) := by
  unfold m_lines_through
  simp only [bp, bind_ret, optM_some, Pz.bind_assoc]
  rw [compM_pure (fun q : Int × List Int × Unit => subB p q.2.1) (fun q => q.1) (fun q _ => ?_) fun _ _ _ => rfl]
  · rw [enum_filter_ix [] (fun l => subB p l)]
    rfl
  · rw [compM_map (fun x => decide (x ∈ q.2.1)) fun _ _ => rfl, bp, List.all_map]
    rfl
theorem both_iff (p l : List Int) : bothL p l = p ↔ subB p l = true := by
  unfold bothL subB
  rw [List.filter_eq_self, List.all_eq_true]
theorem both_perm {m : Int} {a b : List Int} (ha : Lot m a) (hb : Lot m b) : (bothL a b).Perm (bothL b a) :=
  (List.perm_ext_iff_of_nodup (ha.nodup.filter _) (hb.nodup.filter _)).mpr fun x => by
    rw [List.mem_filter, List.mem_filter, decide_eq_true_eq, decide_eq_true_eq]
    exact And.comm
/-! ### open lines, rings -/
def openB (ls : List (List Int)) : Bool := !((irange 0 ls.length).any fun r => (irange 0 r).any fun s => decide (1 < ((bothL (lineAt ls r) (lineAt ls s)).length : Int)))
theorem p_open (ls : List (List Int)) (h8 : ls.length ≤ 1000) : m__law_is_open ls = pureM (openB ls) := by
  unfold m__law_is_open
  simp only [bp, bind_ret, optM_some, Pz.bind_assoc]
  rw [rangeM_sm (lo := 0) (by omega) (by omega) (by omega) (by omega), bp, forO_find (fun r => (irange 0 r).any fun s => decide (1 < ((bothL (lineAt ls r) (lineAt ls s)).length : Int))) (fun _ => false) () fun r hr => ?_]
  · rw [bp]
    unfold caseO openB
    cases hf : (irange 0 ls.length).find? fun r => (irange 0 r).any fun s => decide (1 < ((bothL (lineAt ls r) (lineAt ls s)).length : Int)) with
    | none =>
      rw [List.find?_eq_none] at hf
      have : ((irange 0 ls.length).any fun r => (irange 0 r).any fun s => decide (1 < ((bothL (lineAt ls r) (lineAt ls s)).length : Int))) = false := by
        rw [List.any_eq_false]
        exact hf
      rw [this]; rfl
    | some r =>
      have : ((irange 0 ls.length).any fun r => (irange 0 r).any fun s => decide (1 < ((bothL (lineAt ls r) (lineAt ls s)).length : Int))) = true := by
        rw [List.any_eq_true]
        exact ⟨r, List.mem_of_find?_eq_some hf, by simpa using List.find?_some hf⟩
      rw [this]; rfl
  · rw [mem_irange] at hr
    rw [rangeM_sm (lo := 0) (by omega) (by omega) (by omega) (by omega), bp, forO_find (fun s => decide (1 < ((bothL (lineAt ls r) (lineAt ls s)).length : Int))) (fun _ => false) () fun s hs => ?_]
    · rw [bp]
      unfold caseO
      cases hf : (irange 0 r).find? fun s => decide (1 < ((bothL (lineAt ls r) (lineAt ls s)).length : Int)) with
      | none =>
        rw [List.find?_eq_none] at hf
        have : ((irange 0 r).any fun s => decide (1 < ((bothL (lineAt ls r) (lineAt ls s)).length : Int))) = false := by
          rw [List.any_eq_false]
          exact hf
        rw [this]; rfl
      | some s =>
        have : ((irange 0 r).any fun s => decide (1 < ((bothL (lineAt ls r) (lineAt ls s)).length : Int))) = true := by
          rw [List.any_eq_true]
          exact ⟨s, List.mem_of_find?_eq_some hf, by simpa using List.find?_some hf⟩
        rw [this]; rfl
    · rw [mem_irange] at hs
      rw [line_at hr.1 hr.2, optM_some, bp, line_at hs.1 (by omega), optM_some, bp, p_both, bp]
      cases decide (1 < ((bothL (lineAt ls r) (lineAt ls s)).length : Int)) <;> rfl
theorem p_open_L (ls : List (List Int)) (h8 : ls.length ≤ 1000) : m__law_is_open_L ls = pureM (openB ls) := p_open ls h8
def ringG (ls : List (List Int)) (r s : Int) : Option (Int × Int × Int × Int × Unit) := match bothL (lineAt ls r) (lineAt ls s) with
  | c :: d :: _ => some (r, s, c, d, ())
  | _ => none
def ringP (ls : List (List Int)) : Option (Int × Int × Int × Int × Unit) := (irange 0 ls.length).findSome? fun r => (irange (r + 1) ls.length).findSome? fun s => ringG ls r s
theorem some_some {α β : Type} (g : α → Option β) (xs : List α) : xs.findSome? (fun x => (g x).map some) = (xs.findSome? g).map some := by
  induction xs with
  | nil => rfl
  | cons a l ih =>
    rw [List.findSome?_cons, List.findSome?_cons]
    cases g a with
    | none => exact ih
    | some r => rfl
theorem p_ring (ls : List (List Int)) (h8 : ls.length ≤ 1000) : m_first_ring ls = pureM (ringP ls) := by
  unfold m_first_ring ringP
  simp only [bp, bind_ret, optM_some, Pz.bind_assoc]
  rw [rangeM_sm (lo := 0) (by omega) (by omega) (by omega) (by omega), bp, forO_some (fun r => ((irange (r + 1) ls.length).findSome? fun s => ringG ls r s).map some) () fun r hr => ?_]
  · rw [bp, some_some]
    unfold caseO
    cases (irange 0 ls.length).findSome? fun r => (irange (r + 1) ls.length).findSome? fun s => ringG ls r s <;> rfl
  · rw [mem_irange] at hr
    rw [rangeM_sm (by omega) (by omega) (by omega) (by omega), bp, forO_some (fun s => (ringG ls r s).map some) () fun s hs => ?_]
    · rw [bp, some_some]
      unfold caseO
      cases (irange (r + 1) ls.length).findSome? fun s => ringG ls r s <;> rfl
    · rw [mem_irange] at hs
      rw [p_shared hr.1 hr.2 (by omega) hs.2, bp]
      unfold ringG
      cases hb : bothL (lineAt ls r) (lineAt ls s) with
      | nil => rfl
      | cons c t =>
        cases t with
        | nil => rfl
        | cons d t =>
          rw [show decide (1 < (((c :: d :: t).length : Nat) : Int)) = true by rw [decide_eq_true_eq, List.length_cons, List.length_cons]; omega]
          simp only [if_true, at0, at1, optM_some, bp]
          rfl
/-- rings are there just if lines aren't open -/
theorem ring_some {ls : List (List Int)} {r s c d : Int} (h : ringP ls = some (r, s, c, d, ())) : 0 ≤ r ∧ r < s ∧ s < ls.length ∧ ∃ t, bothL (lineAt ls r) (lineAt ls s) = c :: d :: t := by
  obtain ⟨r', hr, h⟩ := List.exists_of_findSome?_eq_some h
  obtain ⟨s', hs, h⟩ := List.exists_of_findSome?_eq_some h
  rw [mem_irange] at hr hs
  unfold ringG at h
  split at h
  · rename_i c' d' t e
    cases h
    exact ⟨hr.1, by omega, hs.2, t, e⟩
  · cases h
theorem ring_none {ls : List (List Int)} (h : ringP ls = none) {r s : Int} (h0 : 0 ≤ r) (hrs : r < s) (hs : s < ls.length) : (bothL (lineAt ls r) (lineAt ls s)).length ≤ 1 := by
  unfold ringP at h
  rw [List.findSome?_eq_none_iff] at h
  have := h r (mem_irange.mpr ⟨h0, by omega⟩)
  rw [List.findSome?_eq_none_iff] at this
  have := this s (mem_irange.mpr ⟨by omega, hs⟩)
  unfold ringG at this
  split at this
  · cases this
  · rename_i hh
    match hb : bothL (lineAt ls r) (lineAt ls s) with
    | [] => simp
    | [_] => simp
    | c :: d :: t => exact absurd hb (hh c d t)
theorem open_ring {m : Int} {ls : List (List Int)} (hl : LinesOk m ls) : openB ls = (ringP ls).isNone := by
  rw [Bool.eq_iff_iff, Option.isNone_iff_eq_none]
  unfold openB
  rw [Bool.not_eq_true', List.any_eq_false]
  constructor
  · intro h
    cases hp : ringP ls with
    | none => rfl
    | some q =>
      obtain ⟨r, s, c, d, u⟩ := q
      obtain ⟨h0, h1, h2, t, e⟩ := ring_some hp
      refine absurd ?_ (h s (mem_irange.mpr ⟨by omega, h2⟩))
      rw [List.any_eq_true]
      refine ⟨r, mem_irange.mpr ⟨h0, h1⟩, ?_⟩
      rw [decide_eq_true_eq, ((both_perm (line_lot hl (by omega) h2) (line_lot hl h0 (by omega))).length_eq), e]
      simp only [List.length_cons]
      omega
  · intro h r hr
    rw [mem_irange] at hr
    rw [Bool.not_eq_true, List.any_eq_false]
    intro s hs
    rw [mem_irange] at hs
    rw [decide_eq_true_eq, ((both_perm (line_lot hl hr.1 hr.2) (line_lot hl hs.1 (by omega))).length_eq)]
    have := ring_none h hs.1 hs.2 hr.2
    omega
end Lw

namespace Lw
open PySem PySem.Spec PyProof.Rows L2 Pz
abbrev dForm : PyData := .tuple [.str "form"]
def throughL (ls : List (List Int)) (p : List Int) : List Int := (irange 0 ls.length).filter fun i => subB p (lineAt ls i)
def rowsP (ls : List (List Int)) (m : Int) : List (Option Int) := (lotsL m 2).map fun p => (throughL ls p).head?
def paperP (ls : List (List Int)) (m : Int) : PyData := match ringP ls with
  | some (r, s, c, d, _) => .tuple [.str "ring", .int r, .int s, .int c, .int d]
  | none => .tuple [.str "pairs", eT (eO eInt) (rowsP ls m)]
theorem p_some2 {m : Int} (h0 : 0 ≤ m) (h9 : m ≤ 10) : m_some_lots m 2 = pureM (lotsL m 2) := p_some_lots (s := 2) h0 h9 (by decide)
theorem lots2_len {m : Int} (h9 : m ≤ 9) : (lotsL m 2).length ≤ 100 := lots_len (by omega) 2
theorem flat_single {α β : Type} (f : α → β) : ∀ xs : List α, (xs.flatMap fun x => [f x]) = xs.map f
  | [] => rfl
  | x :: xs => by rw [List.flatMap_cons, flat_single f xs]; rfl
theorem p_paper {m : Int} {ls : List (List Int)} (hl : LinesOk m ls) : m_ring_paper ls m = pureM (paperP ls m) := by
  have h9 := hl.m9
  have hll := lots2_len h9
  unfold m_ring_paper paperP
  simp only [bp, bind_ret, optM_some, Pz.bind_assoc, eD]
  rw [p_ring ls (by have := hl.few; omega), bp]
  cases hr : ringP ls with
  | some q =>
    obtain ⟨r, s, c, d, u⟩ := q
    simp only [Option.isSome_some, if_true, optM_some, bp]
    rw [catO_ok (by simp [sizeLine]), optM_some, bp]
    rfl
  | none =>
    simp only [Option.isSome_none, Bool.false_eq_true, if_false]
    rw [sm100 (xs := ([] : List (Option Int))) (by simp), bp, p_some2 hl.m0 (by omega), bp, forM_acc (fun p => [(throughL ls p).head?]) 16777216 (fun p hp b hb => ?_) (by rw [flat_single]; simp; omega), bp]
    · rw [flat_single]; rfl
    · simp only [List.length_singleton] at hb
      rw [p_through, bp, sm100 (xs := ([] : List Int)) (by simp), bp]
      show (Pz.bindM (if (!decide (throughL ls p = [])) = true then Pz.bindM (optM (atI (throughL ls p) 0)) fun x26 => pureM (some x26) else pureM none) fun x29 => appM b x29) = _
      cases ht : throughL ls p with
      | nil =>
        simp only [decide_true, Bool.not_true, Bool.false_eq_true, if_false, bp, List.head?_nil]
        rw [appM_ok (by unfold sizeLine; omega)]
      | cons x t =>
        simp only [reduceCtorEq, decide_false, Bool.not_false, if_true, at0, optM_some, bp, List.head?_cons]
        rw [appM_ok (by unfold sizeLine; omega)]
/-! ### forms -/
def asCnt : PyData → Option Int
  | .int i => if 0 ≤ i then some i else none
  | _ => none
theorem asCnt_some {d : PyData} {i : Int} (h : asCnt d = some i) : d = .int i ∧ 0 ≤ i := by
  unfold asCnt at h
  split at h
  · split at h
    · cases h; exact ⟨rfl, by assumption⟩
    · cases h
  · cases h
theorem p_web (d : PyData) : m_is_web_number d = pureM (asCnt d).isSome := by
  unfold m_is_web_number
  simp only [bp, bind_ret, optM_some, Pz.bind_assoc, eD]
  cases d with
  | int i =>
    rw [show isTy "int" (.int i) = true from rfl, show isTy "bool" (.int i) = false from rfl]
    simp only [if_true, Bool.not_false, asInt_i, optM_some, bp, asCnt]
    by_cases h : 0 ≤ i
    · rw [if_pos h, decide_eq_true h]; rfl
    · rw [if_neg h, decide_eq_false h]; rfl
  | _ => rfl
theorem p_lcount (d : PyData) : m__law_is_count d = pureM (asCnt d).isSome := p_web d
def asRow (n : Int) : PyData → Option (Option Int)
  | .none => some none
  | .int i => if 0 ≤ i ∧ i < n then some (some i) else none
  | _ => none
theorem asCnt_pos {i : Int} (h : 0 ≤ i) : asCnt (.int i) = some i := if_pos h
theorem asCnt_neg {i : Int} (h : ¬ 0 ≤ i) : asCnt (.int i) = none := if_neg h
theorem asRow_pos {n i : Int} (h : 0 ≤ i) (k : i < n) : asRow n (.int i) = some (some i) := if_pos ⟨h, k⟩
theorem asRow_neg {n i : Int} (h : ¬ (0 ≤ i ∧ i < n)) : asRow n (.int i) = none := if_neg h
def formR (n m : Int) : List PyData → Option (Int × Int × Int × Int)
  | [a, b, c, d] => match asCnt a, asCnt b, asCnt c, asCnt d with
    | some r, some s, some c, some d => if r < s ∧ s < n ∧ c < d ∧ d < m then some (r, s, c, d) else none
    | _, _, _, _ => none
  | _ => none
def formP (n m : Int) : List PyData → Option (List (Option Int))
  | [.tuple rs] => if (rs.length : Int) = m * (m - 1) / 2 ∧ rs.all (fun r => (asRow n r).isSome) = true then rs.mapM (asRow n) else none
  | _ => none
def formB (n m : Int) : PyData → Bool
  | .tuple (.str t :: rest) => if t = ("ring" : Str) then (formR n m rest).isSome else if t = ("pairs" : Str) then (formP n m rest).isSome else false
  | _ => false
theorem mapM_row {n : Int} : ∀ {rs : List PyData}, rs.all (fun r => (asRow n r).isSome) = true → ∃ os : List (Option Int), rs.mapM (asRow n) = some os ∧ rs.mapM asOI = some os ∧ rs = os.map (eO eInt) ∧ ∀ r, some r ∈ os → 0 ≤ r ∧ r < n
  | [], _ => ⟨[], rfl, rfl, rfl, by simp⟩
  | r :: rs, h => by
    rw [List.all_cons, Bool.and_eq_true] at h
    obtain ⟨os, h1, h2, h3, h4⟩ := mapM_row h.2
    have key : ∀ o, asRow n r = some o → asOI r = some o → r = eO eInt o → (∀ i, o = some i → 0 ≤ i ∧ i < n) → ∃ os : List (Option Int), (r :: rs).mapM (asRow n) = some os ∧ (r :: rs).mapM asOI = some os ∧ r :: rs = os.map (eO eInt) ∧ ∀ r, some r ∈ os → 0 ≤ r ∧ r < n := fun o e1 e2 e3 e4 => by
      refine ⟨o :: os, ?_, ?_, by rw [List.map_cons, ← e3, ← h3], fun i hi => ?_⟩
      · rw [List.mapM_cons, e1]; show (some o).bind _ = _; rw [Option.bind_some, h1]; rfl
      · rw [List.mapM_cons, e2]; show (some o).bind _ = _; rw [Option.bind_some, h2]; rfl
      · rcases List.mem_cons.mp hi with e | hi
        · exact e4 i e.symm
        · exact h4 i hi
    cases r with
    | none => exact key none rfl rfl rfl (fun i e => by cases e)
    | int i =>
      have h0 := h.1
      by_cases hi : 0 ≤ i ∧ i < n
      · refine key (some i) ?_ rfl rfl (fun j e => by cases e; exact hi)
        show (if 0 ≤ i ∧ i < n then some (some i) else none) = _
        rw [if_pos hi]
      · have : asRow n (.int i) = none := by
          show (if 0 ≤ i ∧ i < n then some (some i) else none) = _
          rw [if_neg hi]
        rw [this] at h0
        cases h0
    | _ => exact absurd h.1 (by simp [asRow])
theorem m2_ok {m : Int} (h0 : 0 ≤ m) (h9 : m ≤ 9) : (m * (m - 1)).fdiv 2 = m * (m - 1) / 2 := Int.fdiv_eq_ediv_of_nonneg _ (by decide)
theorem eqZ_strN {v : PyData} (h : ∀ s, v ≠ .str s) (hp : pl0 v = true) (hd : v.depth ≤ 60) (t : Str) : eqZ v (eStr t) = some false := by
  unfold eqZ
  rw [if_pos ⟨by unfold cmB; rw [hp]; rfl, hd⟩]
  cases v <;> first | rfl | exact absurd rfl (h _)
theorem ne_rp : ¬ ((("pairs" : String) : Str) = (("ring" : String) : Str)) := by decide +kernel
theorem p_form {n m : Int} (h0 : 0 ≤ m) (h9 : m ≤ 9) (v : PyData) : m_is_ring_form n m v = pureM (formB n m v) := by
  unfold m_is_ring_form
  simp only [bp, bind_ret, optM_some, Pz.bind_assoc, eD]
  cases v with
  | tuple ds =>
    rw [show isTy "tuple" (.tuple ds) = true from rfl]
    simp only [Bool.not_true, Bool.false_eq_true, if_false, asTup_t, optM_some, bp]
    match ds with
    | [] => rfl
    | [x] =>
      rw [show decide ((([x] : List PyData).length : Int) < 2) = true from rfl]
      simp only [if_true, bp]
      cases x with
      | str t =>
        unfold formB
        dsimp only
        by_cases h1 : t = ("ring" : Str)
        · rw [if_pos h1]; rfl
        · rw [if_neg h1]
          by_cases h2 : t = ("pairs" : Str)
          · rw [if_pos h2]; rfl
          · rw [if_neg h2]
      | _ => rfl
    | x :: y :: w =>
      rw [show decide (((x :: y :: w : List PyData).length : Int) < 2) = false by rw [decide_eq_false_iff_not, List.length_cons, List.length_cons]; omega]
      simp only [Bool.false_eq_true, if_false, at0, at1, optM_some, bp]
      cases x with
      | str t =>
        rw [show isTy "str" (.str t) = true from rfl]
        simp only [Bool.not_true, Bool.false_eq_true, if_false, eqZ_str, optM_some, bp, Option.map_some]
        unfold formB
        dsimp only
        by_cases h1 : t = ("ring" : Str)
        · rw [if_pos h1]
          simp only [h1, decide_true, if_true]
          rw [Pz.cut_from _ (by decide), show List.drop (Int.toNat 1) (PyData.str ("ring" : Str) :: y :: w) = y :: w from rfl]
          match w with
          | [b, c, d] =>
            rw [show (!decide ((([PyData.str ("ring" : Str), y, b, c, d] : List PyData).length : Int) = 5)) = false from rfl]
            simp only [Bool.false_eq_true, if_false]
            rw [compM_map (fun x => (asCnt x).isSome) fun x _ => p_web x, bp]
            simp only [List.map_cons, List.map_nil, List.all_cons, List.all_nil, id, Bool.and_true, bp]
            unfold formR
            cases ha : asCnt y with
            | none => simp [ha]
            | some r =>
              cases hb : asCnt b with
              | none => simp [ha, hb]
              | some s =>
                cases hc : asCnt c with
                | none => simp [ha, hb, hc]
                | some c' =>
                  cases hd : asCnt d with
                  | none => simp [ha, hb, hc, hd]
                  | some d' =>
                    obtain ⟨rfl, _⟩ := asCnt_some ha
                    obtain ⟨rfl, _⟩ := asCnt_some hb
                    obtain ⟨rfl, _⟩ := asCnt_some hc
                    obtain ⟨rfl, _⟩ := asCnt_some hd
                    simp only [Option.isSome_some, Bool.and_true, Bool.not_true, Bool.false_eq_true, if_false]
                    rw [asInt_i, optM_some, bp, show atI [PyData.str ("ring" : Str), .int r, .int s, .int c', .int d'] 2 = some (.int s) from at2 _ _ _ _, optM_some, bp, asInt_i, optM_some, bp]
                    rw [show atI [PyData.str ("ring" : Str), .int r, .int s, .int c', .int d'] 3 = some (.int c') from Pz.atI_nat (xs := [PyData.str ("ring" : Str), .int r, .int s, .int c', .int d']) (i := 3) (by simp), show atI [PyData.str ("ring" : Str), .int r, .int s, .int c', .int d'] 4 = some (.int d') from Pz.atI_nat (xs := [PyData.str ("ring" : Str), .int r, .int s, .int c', .int d']) (i := 4) (by simp)]
                    simp only [optM_some, bp, asInt_i]
                    by_cases e1 : r < s
                    · by_cases e2 : s < n
                      · by_cases e3 : c' < d'
                        · by_cases e4 : d' < m
                          · simp [e1, e2, e3, e4, bp, ha, hb, hc, hd]
                          · simp [e1, e2, e3, e4, bp, ha, hb, hc, hd]
                        · simp [e1, e2, e3, bp, ha, hb, hc, hd]
                      · simp [e1, e2, bp, ha, hb, hc, hd]
                    · simp [e1, bp, ha, hb, hc, hd]
          | [] => rfl
          | [b] => rfl
          | [b, c] => rfl
          | b :: c :: d :: e :: u =>
            rw [show (!decide (((PyData.str ("ring" : Str) :: y :: b :: c :: d :: e :: u : List PyData).length : Int) = 5)) = true by simp only [Bool.not_eq_true', decide_eq_false_iff_not, List.length_cons]; omega]
            rfl
        · rw [if_neg h1]
          simp only [h1, decide_false, Bool.false_eq_true, if_false]
          by_cases h2 : t = ("pairs" : Str)
          · rw [if_pos h2]
            simp only [h2, decide_true, Bool.not_true, Bool.false_eq_true, if_false]
            match w with
            | [] =>
              rw [show (!decide ((([PyData.str ("pairs" : Str), y] : List PyData).length : Int) = 2)) = false from rfl]
              simp only [Bool.false_eq_true, if_false]
              cases y with
              | tuple rs =>
                rw [show isTy "tuple" (.tuple rs) = true from rfl]
                simp only [Bool.not_true, Bool.false_eq_true, if_false, bp, asTup_t, optM_some]
                have hsq : (m - 1).natAbs < 2 ^ 64 := by omega
                rw [mulO_ok (.inr hsq), optM_some, bp, divO_ok (by decide), optM_some, bp, m2_ok h0 h9]
                unfold formP
                dsimp only
                by_cases e : (rs.length : Int) = m * (m - 1) / 2
                · rw [decide_eq_true e]
                  simp only [Bool.not_true, Bool.false_eq_true, if_false]
                  rw [compM_map (fun x => (asRow n x).isSome) fun x _ => ?_]
                  · rw [bp, List.all_map]
                    show pureM (rs.all fun r => (asRow n r).isSome) = _
                    cases ha : rs.all fun r => (asRow n r).isSome with
                    | false => rw [if_neg (fun z => by cases z.2)]; rfl
                    | true =>
                      rw [if_pos ⟨e, rfl⟩]
                      obtain ⟨os, e1, _⟩ := mapM_row ha
                      rw [e1]; rfl
                  · rw [p_web, bp]
                    cases x with
                    | int i =>
                      by_cases e1 : 0 ≤ i
                      · rw [asCnt_pos e1]
                        simp only [Option.isSome_some, if_true, asInt_i, optM_some, bp]
                        by_cases e2 : i < n
                        · rw [asRow_pos e1 e2, decide_eq_true e2]; rfl
                        · rw [asRow_neg fun z => e2 z.2, decide_eq_false e2]; rfl
                      · rw [asCnt_neg e1, asRow_neg fun z => e1 z.1]; rfl
                    | _ => rfl
                · rw [decide_eq_false e, if_neg (fun z : ((rs.length : Int) = m * (m - 1) / 2 ∧ (rs.all fun r => (asRow n r).isSome) = true) => e z.1)]
                  rfl
              | _ => rfl
            | z :: u =>
              rw [show (!decide (((PyData.str ("pairs" : Str) :: y :: z :: u : List PyData).length : Int) = 2)) = true by simp only [Bool.not_eq_true', decide_eq_false_iff_not, List.length_cons]; omega]
              simp only [if_true, bp]
              cases y <;> rfl
          · rw [if_neg h2]
            simp only [h2, decide_false, Bool.not_false, if_true, bp]
      | _ => rfl
  | _ => rfl
end Lw

namespace Lw
open PySem PySem.Spec PyProof.Rows L2 Pz
theorem ite_b {β : Type} {b : Bool} {x y : M β} {u v : β} (h1 : x = pureM u) (h2 : y = pureM v) : (if b = true then x else y) = pureM (if b = true then u else v) := by cases b <;> assumption
def ringF (ls : List (List Int)) (r s c d : Int) : PyData := match [(r, c, ()), (r, d, ()), (s, c, ()), (s, d, ())].find? fun q => !decide (q.2.1 ∈ lineAt ls q.1) with
  | some q => .tuple [.str "off", .int q.1, .int q.2.1]
  | none => .none
theorem p_ringf {ls : List (List Int)} {r s c d : Int} (h0 : 0 ≤ r) (hr : r < ls.length) (h1 : 0 ≤ s) (hs : s < ls.length) : m_ring_fault ls r s c d = pureM (ringF ls r s c d) := by
  unfold m_ring_fault ringF
  simp only [bp, bind_ret, optM_some, Pz.bind_assoc, eD]
  rw [forO_find (fun q : Int × Int × Unit => !decide (q.2.1 ∈ lineAt ls q.1)) (fun q => .tuple [.str "off", .int q.1, .int q.2.1]) () fun q hq => ?_]
  · rw [bp]
    unfold caseO
    cases [(r, c, ()), (r, d, ()), (s, c, ()), (s, d, ())].find? fun q => !decide (q.2.1 ∈ lineAt ls q.1) <;> rfl
  · have hq1 : 0 ≤ q.1 ∧ q.1 < ls.length := by
      simp only [List.mem_cons, List.not_mem_nil, or_false] at hq
      rcases hq with rfl | rfl | rfl | rfl <;> exact ⟨by assumption, by assumption⟩
    rw [line_at hq1.1 hq1.2, optM_some, bp]
    cases decide (q.2.1 ∈ lineAt ls q.1) <;> rfl
def pairAt (m k : Int) : List Int := (lotsL m 2).getD k.toNat []
def offB (ls : List (List Int)) (m : Int) (q : Int × Option Int × Unit) : Bool := match q.2.1 with
  | some r => !subB (pairAt m q.1) (lineAt ls r)
  | none => false
def moreL (ls : List (List Int)) (m : Int) (q : Int × Option Int × Unit) : List Int := (throughL ls (pairAt m q.1)).filter fun s => !decide (some s = q.2.1)
def pairsF (ls : List (List Int)) (m : Int) (os : List (Option Int)) : PyData := match (enumL os).find? (offB ls m) with
  | some q => .tuple [.str "off", .int q.1]
  | none => match (enumL os).findSome? fun q => (moreL ls m q).head?.map fun s => PyData.tuple [.str "more", .int q.1, .int s] with
    | some d => d
    | none => .none
structure RowsOk (n m : Int) (os : List (Option Int)) : Prop where
  len : os.length = (lotsL m 2).length
  row : ∀ r, some r ∈ os → 0 ≤ r ∧ r < n
theorem p_pairsf {ls : List (List Int)} {m : Int} (hl : LinesOk m ls) {os : List (Option Int)} (ho : RowsOk ls.length m os) : m_pairs_fault ls m os = pureM (pairsF ls m os) := by
  unfold m_pairs_fault pairsF
  simp only [bp, bind_ret, optM_some, Pz.bind_assoc, eD]
  rw [p_some2 hl.m0 (by have := hl.m9; omega), bp, forO_find (offB ls m) (fun q => .tuple [.str "off", .int q.1]) () fun q hq => ?_]
  · rw [bp]
    unfold caseO
    cases (enumL os).find? (offB ls m) with
    | some q => rfl
    | none =>
      dsimp only
      rw [forO_some (fun q => (moreL ls m q).head?.map fun s => PyData.tuple [.str "more", .int q.1, .int s]) () fun q hq => ?_]
      · rw [bp]
        cases (enumL os).findSome? fun q => (moreL ls m q).head?.map fun s => PyData.tuple [.str "more", .int q.1, .int s] <;> rfl
      · have hlt := enum_lt hq
        rw [at_getD [] hlt.1 (by rw [← ho.len]; exact hlt.2.1), optM_some, bp, p_through, bp, compM_pureF (fun s => !decide (some s = q.2.1)) fun _ _ => rfl, bp, sm100 (xs := ([] : List Int)) (by simp), bp]
        show (if (!decide (moreL ls m q = [])) = true then _ else _) = _
        show (if (!decide (moreL ls m q = [])) = true then Pz.bindM (optM (atI (moreL ls m q) 0)) _ else _) = _
        cases moreL ls m q with
        | nil => rfl
        | cons s t =>
          simp only [reduceCtorEq, decide_false, Bool.not_false, if_true, at0, optM_some, bp, List.head?_cons, Option.map_some]
          rfl
  · have hlt := enum_lt hq
    cases ho2 : q.2.1 with
    | none =>
      unfold offB
      rw [ho2]
      rfl
    | some r =>
      have hr := ho.row r (by rw [← ho2]; exact enum_mem hq)
      simp only [Option.isSome_some, if_true, optM_some, bp]
      rw [at_getD [] hlt.1 (by rw [← ho.len]; exact hlt.2.1), optM_some, bp, compM_map (fun x => decide (x ∈ lineAt ls r)) (fun x _ => ?_)]
      · rw [bp, List.all_map]
        unfold offB
        rw [ho2]
        show (Pz.bindM (pureM (!subB (pairAt m q.1) (lineAt ls r))) _) = _
        rw [bp]
        exact ite_b rfl rfl
      · rw [line_at hr.1 hr.2, optM_some, bp]
def faultR (ls : List (List Int)) (m : Int) : PyData → PyData
  | .tuple (.str t :: rest) => if t = ("ring" : Str) then (match formR ls.length m rest with | some (r, s, c, d) => ringF ls r s c d | none => dForm)
    else if t = ("pairs" : Str) then (match formP ls.length m rest with | some os => pairsF ls m os | none => dForm) else dForm
  | _ => dForm
theorem formR_some {n m : Int} {rest : List PyData} {r s c d : Int} (h : formR n m rest = some (r, s, c, d)) : rest = [.int r, .int s, .int c, .int d] ∧ 0 ≤ r ∧ r < s ∧ s < n ∧ 0 ≤ c ∧ c < d ∧ d < m := by
  unfold formR at h
  split at h
  · split at h
    · rename_i h1 h2 h3 h4
      obtain ⟨rfl, g1⟩ := asCnt_some h1
      obtain ⟨rfl, g2⟩ := asCnt_some h2
      obtain ⟨rfl, g3⟩ := asCnt_some h3
      obtain ⟨rfl, g4⟩ := asCnt_some h4
      split at h
      · rename_i hc
        cases h
        exact ⟨rfl, g1, hc.1, hc.2.1, g3, hc.2.2⟩
      · cases h
    · cases h
  · cases h
theorem lots2_count {m : Int} (h0 : 0 ≤ m) (h9 : m ≤ 9) : ((lotsL m 2).length : Int) = m * (m - 1) / 2 := by
  have hm : m = 0 ∨ m = 1 ∨ m = 2 ∨ m = 3 ∨ m = 4 ∨ m = 5 ∨ m = 6 ∨ m = 7 ∨ m = 8 ∨ m = 9 := by omega
  rcases hm with rfl | rfl | rfl | rfl | rfl | rfl | rfl | rfl | rfl | rfl <;> decide +kernel
theorem formP_some {n m : Int} (h0 : 0 ≤ m) (h9 : m ≤ 9) {rest : List PyData} {os : List (Option Int)} (h : formP n m rest = some os) : rest = [.tuple (os.map (eO eInt))] ∧ RowsOk n m os ∧ (os.map (eO eInt)).mapM asOI = some os := by
  unfold formP at h
  split at h
  · split at h
    · rename_i rs hc
      obtain ⟨os2, e1, e2, e3, e4⟩ := mapM_row hc.2
      rw [e1] at h
      cases h
      subst e3
      have hlen := hc.1
      rw [List.length_map] at hlen
      exact ⟨rfl, ⟨by have := lots2_count h0 h9; omega, e4⟩, e2⟩
    · cases h
  · cases h
theorem p_judge {ls : List (List Int)} {m : Int} (hl : LinesOk m ls) (v : PyData) : m_judge_ring ls m v = pureM (faultR ls m v) := by
  unfold m_judge_ring
  simp only [bp, bind_ret, optM_some, Pz.bind_assoc, eD]
  rw [p_form hl.m0 hl.m9, bp]
  cases v with
  | tuple ds =>
    cases ds with
    | nil => rfl
    | cons x rest =>
      cases x with
      | str t =>
        unfold faultR
        dsimp only
        by_cases h1 : t = ("ring" : Str)
        · rw [if_pos h1, show formB ls.length m (.tuple (.str t :: rest)) = (formR ls.length m rest).isSome from if_pos h1]
          cases hf : formR ls.length m rest with
          | none => rfl
          | some q =>
            obtain ⟨r, s, c, d⟩ := q
            obtain ⟨rfl, g0, g1, g2, g3, g4, g5⟩ := formR_some hf
            simp only [Option.isSome_some, Bool.not_true, Bool.false_eq_true, if_false, asTup_t, optM_some, bp, at0, eqZ_str, h1, decide_true, if_true, at1, asInt_i, at2]
            rw [show atI [PyData.str ("ring" : Str), .int r, .int s, .int c, .int d] 3 = some (.int c) from Pz.atI_nat (xs := [PyData.str ("ring" : Str), .int r, .int s, .int c, .int d]) (i := 3) (by simp), show atI [PyData.str ("ring" : Str), .int r, .int s, .int c, .int d] 4 = some (.int d) from Pz.atI_nat (xs := [PyData.str ("ring" : Str), .int r, .int s, .int c, .int d]) (i := 4) (by simp)]
            simp only [optM_some, bp, asInt_i]
            exact p_ringf g0 (by omega) (by omega) g2
        · rw [if_neg h1]
          by_cases h2 : t = ("pairs" : Str)
          · rw [if_pos h2, show formB ls.length m (.tuple (.str t :: rest)) = (formP ls.length m rest).isSome from (if_neg h1).trans (if_pos h2)]
            cases hf : formP ls.length m rest with
            | none => rfl
            | some os =>
              obtain ⟨rfl, g1, g2⟩ := formP_some hl.m0 hl.m9 hf
              simp only [Option.isSome_some, Bool.not_true, Bool.false_eq_true, if_false, asTup_t, optM_some, bp, at0, eqZ_str, h1, decide_false, at1, g2]
              exact p_pairsf hl g1
          · rw [if_neg h2, show formB ls.length m (.tuple (.str t :: rest)) = false from (if_neg h1).trans (if_neg h2)]
            rfl
      | _ => rfl
  | _ => rfl
/-! ### the law's fault -/
theorem inZ_strs {x : PyData} (hp : pl0 x = true) (hd : x.depth ≤ 60) : inZ x (eT eStr [("ring" : Str), ("pairs" : Str)]) = some (PyData.eqv (.str "ring") x || PyData.eqv (.str "pairs") x) := by
  show (if _ then _ else _) = _
  rw [if_pos ⟨rfl, hp, hd⟩]
  simp [eStr]
theorem eqv_str (s t : Str) : PyData.eqv (.str s) (.str t) = decide (s = t) := by
  simp [PyData.eqv]
  exact Bool.beq_eq_decide_eq s t
theorem eqv_strN {x : PyData} (h : ∀ s, x ≠ .str s) (t : Str) : PyData.eqv (.str t) x = false := by
  cases x <;> first | rfl | exact absurd rfl (h _)
theorem inZ_ints (c : Int) (l : List Int) : inZ (.int c) (eT eInt l) = some (decide (c ∈ l)) := by
  have D : Dc 0 eInt := Dc.int
  have hp : PyData.plainAll (l.map eInt) = true := plain_ints l
  show (if PyData.plainAll (l.map eInt) = true ∧ pl0 (.int c) = true ∧ PyData.depth (.int c) ≤ 60 then _ else _) = _
  rw [if_pos ⟨hp, rfl, by simp [PyData.depth]⟩]
  congr 1
  rw [List.any_map, Bool.eq_iff_iff, List.any_eq_true, decide_eq_true_eq]
  constructor
  · rintro ⟨x, hx, e⟩
    simp [eInt, PyData.eqv] at e
    rw [← e]; exact hx
  · intro h
    exact ⟨c, h, by simp [eInt, PyData.eqv]⟩
theorem eqZ_opt (s : Int) (o : Option Int) : eqZ (.int s) (eO eInt o) = some (decide (some s = o)) := by
  cases o with
  | none => rfl
  | some i =>
    have := eqZ_int s i
    rw [show eqZ (.int s) (eO eInt (some i)) = eqZ (.int s) (.int i) from rfl, this]
    congr 1
    rw [decide_eq_decide]
    simp
theorem filter_comm' {α : Type} (p q : α → Bool) (xs : List α) : (xs.filter p).filter q = xs.filter fun x => q x && p x := by rw [List.filter_filter]
theorem p_lfault {ls : List (List Int)} {m : Int} (hl : LinesOk m ls) {v : PyData} (h0 : pl0 v = true) (hd : v.depth ≤ 50) : m__law_fault ls m v = pureM (faultR ls m v) := by
  have h9 := hl.m9
  have few := hl.few
  unfold m__law_fault
  simp only [bp, bind_ret, optM_some, Pz.bind_assoc, eD]
  rw [p_law_some (k := 2) hl.m0 (by omega) (by decide), bp, show (2 : Int).toNat = 2 from rfl]
  cases v with
  | tuple ds =>
    rw [show isTy "tuple" (.tuple ds) = true from rfl]
    simp only [Bool.not_true, Bool.false_eq_true, if_false, asTup_t, optM_some, bp]
    match ds, h0, hd with
    | [], _, _ => rfl
    | [x], _, _ =>
      rw [show decide ((([x] : List PyData).length : Int) < 2) = true from rfl]
      simp only [if_true, bp]
      cases x with
      | str t =>
        unfold faultR
        dsimp only
        by_cases h1 : t = ("ring" : Str)
        · rw [if_pos h1]; rfl
        · rw [if_neg h1]
          by_cases h2 : t = ("pairs" : Str)
          · rw [if_pos h2]; rfl
          · rw [if_neg h2]; rfl
      | _ => rfl
    | x :: y :: w, h0, hd =>
      have hx : pl0 x = true ∧ pl0 y = true := by simp only [pl0, pl0s, Bool.and_eq_true] at h0; exact ⟨h0.1, h0.2.1⟩
      have hdx : x.depth ≤ 49 ∧ y.depth ≤ 49 := by simp only [PyData.depth, PyData.depthAll] at hd; omega
      rw [show decide (((x :: y :: w : List PyData).length : Int) < 2) = false by rw [decide_eq_false_iff_not, List.length_cons, List.length_cons]; omega]
      simp only [Bool.false_eq_true, if_false, at0, at1, optM_some, bp]
      rw [inZ_strs hx.1 (by omega), Option.map_some, optM_some, bp]
      by_cases hs : ∃ t, x = .str t
      · obtain ⟨t, rfl⟩ := hs
        rw [eqv_str, eqv_str]
        unfold faultR
        dsimp only
        by_cases h1 : t = ("ring" : Str)
        · rw [if_pos h1]
          subst h1
          simp only [decide_true, Bool.true_or, Bool.not_true, Bool.false_eq_true, if_false, eqZ_str, optM_some, bp, if_true]
          rw [Pz.cut_from _ (by decide), show List.drop (Int.toNat 1) (PyData.str ("ring" : Str) :: y :: w) = y :: w from rfl]
          match w with
          | [b, c, d] =>
            rw [show (!decide ((([PyData.str ("ring" : Str), y, b, c, d] : List PyData).length : Int) = 5)) = false from rfl]
            simp only [Bool.false_eq_true, if_false]
            rw [compM_map (fun x => (asCnt x).isSome) fun x _ => p_lcount x, bp]
            simp only [List.map_cons, List.map_nil, List.all_cons, List.all_nil, id, Bool.and_true, bp]
            unfold formR
            cases ha : asCnt y with
            | none => simp [ha]; rfl
            | some r =>
              cases hb : asCnt b with
              | none => simp [ha, hb]; rfl
              | some s =>
                cases hc : asCnt c with
                | none => simp [ha, hb, hc]; rfl
                | some c' =>
                  cases hd' : asCnt d with
                  | none => simp [ha, hb, hc, hd']; rfl
                  | some d' =>
                    obtain ⟨rfl, g1⟩ := asCnt_some ha
                    obtain ⟨rfl, g2⟩ := asCnt_some hb
                    obtain ⟨rfl, g3⟩ := asCnt_some hc
                    obtain ⟨rfl, g4⟩ := asCnt_some hd'
                    simp only [Option.isSome_some, Bool.and_true, Bool.not_true, Bool.false_eq_true, if_false, ha, hb, hc, hd']
                    rw [show of4 [PyData.int r, .int s, .int c', .int d'] = some (.int r, .int s, .int c', .int d', ()) from rfl, optM_some, bp]
                    simp only [asInt_i, optM_some, bp]
                    by_cases hall : r < s ∧ s < ls.length ∧ c' < d' ∧ d' < m
                    · rw [if_pos hall]
                      obtain ⟨e1, e2, e3, e4⟩ := hall
                      simp only [e1, e2, e3, e4, decide_true, if_true, bp, Bool.not_true, Bool.false_eq_true, if_false]
                      unfold ringF
                      have body : ∀ (q : Int × Int × Unit), 0 ≤ q.1 → q.1 < ls.length → (Pz.bindM (optM (asInt (PyData.int q.1))) fun a => Pz.bindM (optM (atI ls a)) fun a => Pz.bindM (optM (Option.map (fun x => !x) (inZ (PyData.int q.2.1) (eT eInt a)))) fun x117 => if x117 = true then (pureM (Out.rt (eP (eC eStr (eC eD (eC eD eU))) (("off" : Str), PyData.int q.1, PyData.int q.2.1, ()))) : M (Out PyData Unit)) else pureM (Out.nx ())) = pureM (if (!decide (q.2.1 ∈ lineAt ls q.1)) = true then .rt (.tuple [.str "off", .int q.1, .int q.2.1]) else .nx ()) := fun q h1 h2 => by
                        rw [asInt_i, optM_some, bp, line_at h1 h2, optM_some, bp, inZ_ints, Option.map_some, optM_some, bp]
                        cases decide (q.2.1 ∈ lineAt ls q.1) <;> rfl
                      rw [show ([(PyData.int r, PyData.int c', ()), (PyData.int r, PyData.int d', ()), (PyData.int s, PyData.int c', ()), (PyData.int s, PyData.int d', ())] : List (PyData × PyData × Unit)) = [(r, c', ()), (r, d', ()), (s, c', ()), (s, d', ())].map fun q : Int × Int × Unit => (PyData.int q.1, PyData.int q.2.1, ()) from rfl]
                      rw [forO_map, forO_find (fun q : Int × Int × Unit => !decide (q.2.1 ∈ lineAt ls q.1)) (fun q => .tuple [.str "off", .int q.1, .int q.2.1]) () fun q hq => ?_]
                      · rw [bp]
                        unfold caseO
                        cases [(r, c', ()), (r, d', ()), (s, c', ()), (s, d', ())].find? fun q => !decide (q.2.1 ∈ lineAt ls q.1) <;> rfl
                      · have hq1 : 0 ≤ q.1 ∧ q.1 < ls.length := by
                          simp only [List.mem_cons, List.not_mem_nil, or_false] at hq
                          rcases hq with rfl | rfl | rfl | rfl <;> exact ⟨by assumption, by first | assumption | (show r < _; omega)⟩
                        exact body q hq1.1 hq1.2
                    · rw [if_neg hall]
                      by_cases e1 : r < s
                      · by_cases e2 : s < ls.length
                        · by_cases e3 : c' < d'
                          · have e4 : ¬ d' < m := fun z => hall ⟨e1, e2, e3, z⟩
                            simp [e1, e2, e3, e4, bp]; rfl
                          · simp [e1, e2, e3, bp]; rfl
                        · simp [e1, e2, bp]; rfl
                      · simp [e1, bp]; rfl
          | [] => rfl
          | [b] => rfl
          | [b, c] => rfl
          | b :: c :: d :: e :: u =>
            rw [show (!decide (((PyData.str ("ring" : Str) :: y :: b :: c :: d :: e :: u : List PyData).length : Int) = 5)) = true by simp only [Bool.not_eq_true', decide_eq_false_iff_not, List.length_cons]; omega]
            rfl
        · rw [if_neg h1]
          by_cases h2 : t = ("pairs" : Str)
          · rw [if_pos h2]
            subst h2
            have e0 : decide ((("ring" : String) : Str) = ("pairs" : String)) = false := decide_eq_false fun z => h1 z.symm
            simp only [e0, h1, decide_false, decide_true, Bool.false_or, Bool.not_true, Bool.false_eq_true, if_false, eqZ_str, optM_some, bp]
            match w with
            | [] =>
              rw [show (!decide ((([PyData.str ("pairs" : Str), y] : List PyData).length : Int) = 2)) = false from rfl]
              simp only [Bool.false_eq_true, if_false]
              cases y with
              | tuple rs =>
                rw [show isTy "tuple" (.tuple rs) = true from rfl]
                simp only [Bool.not_true, Bool.false_eq_true, if_false, bp, asTup_t, optM_some]
                have hpl : pl0s rs = true := hx.2
                have hdl : PyData.depthAll rs ≤ 48 := by have := hdx.2; simp only [PyData.depth] at this; omega
                have hcnt := lots2_count hl.m0 hl.m9
                unfold formP
                dsimp only
                by_cases e : (rs.length : Int) = m * (m - 1) / 2
                · rw [show (!decide ((rs.length : Int) = ((lotsL m 2).length : Int))) = false by rw [hcnt, decide_eq_true e]; rfl]
                  simp only [Bool.false_eq_true, if_false]
                  rw [compM_pureF (fun x => !(asRow ls.length x).isSome) fun x _ => ?_]
                  · rw [bp, sm100 (xs := ([] : List PyData)) (by simp), bp, eqZ_nil (pl0s_filter hpl) (by have := depth_filter (p := fun x => !(asRow ls.length x).isSome) (ys := rs); omega), Option.map_some, optM_some, bp]
                    cases ha : rs.all fun r => (asRow ls.length r).isSome with
                    | false =>
                      have : (rs.filter fun x => !(asRow ls.length x).isSome).isEmpty = false := by
                        cases q : (rs.filter fun x => !(asRow ls.length x).isSome) with
                        | cons _ _ => rfl
                        | nil =>
                          rw [List.filter_eq_nil_iff] at q
                          have : (rs.all fun r => (asRow ls.length r).isSome) = true := List.all_eq_true.mpr fun a ha => by
                            have := q a ha
                            cases hh : (asRow ls.length a).isSome with
                            | true => rfl
                            | false => rw [hh] at this; exact absurd rfl this
                          rw [this] at ha; cases ha
                      rw [this]
                      simp only [Bool.not_false, if_true]
                      first | rw [if_neg (show ¬ ((rs.length : Int) = m * (m - 1) / 2 ∧ false = true) from fun z => by cases z.2)] | rw [if_neg (show ¬ ((rs.length : Int) = m * (m - 1) / 2 ∧ False) from fun z => z.2)]
                      rfl
                    | true =>
                      have : (rs.filter fun x => !(asRow ls.length x).isSome).isEmpty = true := by
                        rw [List.isEmpty_iff, List.filter_eq_nil_iff]
                        intro a haa
                        have := List.all_eq_true.mp ha a haa
                        simp [this]
                      rw [this]
                      obtain ⟨os, e1, e2, e3, e4⟩ := mapM_row ha
                      simp only [Bool.not_true, Bool.false_eq_true, if_false]
                      rw [if_pos (show ((rs.length : Int) = m * (m - 1) / 2 ∧ True) from ⟨e, trivial⟩), e1]
                      show (Pz.bindM _ _) = pureM (pairsF ls m os)
                      subst e3
                      rw [List.length_map] at e
                      have hlen : os.length = (lotsL m 2).length := by omega
                      rw [enum_map, forO_map, forO_find (offB ls m) (fun q => .tuple [.str "off", .int q.1]) () fun q hq => ?_]
                      · rw [bp]
                        unfold pairsF caseO
                        cases (enumL os).find? (offB ls m) with
                        | some q => rfl
                        | none =>
                          dsimp only
                          rw [forO_map, forO_some (fun q => (moreL ls m q).head?.map fun s => PyData.tuple [.str "more", .int q.1, .int s]) () fun q hq => ?_]
                          · rw [bp]
                            cases (enumL os).findSome? fun q => (moreL ls m q).head?.map fun s => PyData.tuple [.str "more", .int q.1, .int s] <;> rfl
                          · have hlt := enum_lt hq
                            rw [rangeM_sm (lo := 0) (by omega) (by omega) (by omega) (by omega), bp, compM_pureF (fun s => !decide (some s = q.2.1) && subB (pairAt m q.1) (lineAt ls s)) fun s hs => ?_]
                            · rw [bp, show ((irange 0 ls.length).filter fun s => !decide (some s = q.2.1) && subB (pairAt m q.1) (lineAt ls s)) = moreL ls m q by unfold moreL throughL; rw [List.filter_filter], sm100 (xs := ([] : List Int)) (by simp), bp]
                              cases moreL ls m q with
                              | nil => rfl
                              | cons s t =>
                                simp only [reduceCtorEq, decide_false, Bool.not_false, if_true, at0, optM_some, bp, List.head?_cons, Option.map_some]
                                rfl
                            · rw [mem_irange] at hs
                              dsimp only
                              rw [show eqZ (eInt s) (eO eInt q.2.1) = _ from eqZ_opt s q.2.1, Option.map_some, optM_some, bp]
                              cases hdq : decide (some s = q.2.1) with
                              | true => rfl
                              | false =>
                                simp only [Bool.not_false, if_true, Bool.true_and]
                                rw [at_getD [] hlt.1 (by rw [← hlen]; exact hlt.2.1), optM_some, bp, line_at hs.1 hs.2, optM_some, bp, p_both, bp, bp]
                                congr 1
                                rw [Bool.eq_iff_iff, decide_eq_true_eq]
                                exact both_iff _ _
                      · have hlt := enum_lt hq
                        unfold offB
                        dsimp only
                        cases ho2 : q.2.1 with
                        | none => rfl
                        | some r =>
                          have hr := e4 r (by rw [← ho2]; exact enum_mem hq)
                          rw [show Pz.isNon (eO eInt (some r)) = false from rfl]
                          simp only [Bool.not_false, if_true]
                          rw [at_getD [] hlt.1 (by rw [← hlen]; exact hlt.2.1), optM_some, bp, show asInt (eO eInt (some r)) = some r from rfl, optM_some, bp, line_at hr.1 hr.2, optM_some, bp, p_both, bp, bp]
                          have : decide (bothL (pairAt m q.1) (lineAt ls r) = pairAt m q.1) = subB (pairAt m q.1) (lineAt ls r) := by
                            rw [Bool.eq_iff_iff, decide_eq_true_eq]
                            exact both_iff _ _
                          show (Pz.bindM (pureM (!decide (bothL (pairAt m q.1) (lineAt ls r) = pairAt m q.1))) _) = _
                          rw [this, bp]
                          exact ite_b rfl rfl
                  · cases x with
                    | none => rfl
                    | int i =>
                      rw [p_lcount]
                      rw [show Pz.isNon (.int i) = false from rfl]
                      simp only [Bool.not_false, if_true, bp]
                      by_cases e1 : 0 ≤ i
                      · rw [asCnt_pos e1]
                        simp only [Option.isSome_some, if_true, asInt_i, optM_some, bp]
                        by_cases e2 : i < ls.length
                        · rw [asRow_pos e1 e2, decide_eq_true e2]; rfl
                        · rw [asRow_neg fun z => e2 z.2, decide_eq_false e2]; rfl
                      · rw [asCnt_neg e1, asRow_neg fun z => e1 z.1]; rfl
                    | _ => rfl
                · rw [show (!decide ((rs.length : Int) = ((lotsL m 2).length : Int))) = true by rw [hcnt, decide_eq_false e]; rfl, if_neg (show ¬ ((rs.length : Int) = m * (m - 1) / 2 ∧ (rs.all fun r => (asRow ls.length r).isSome) = true) from fun z => e z.1)]
                  rfl
              | _ => rfl
            | z :: u =>
              rw [show (!decide (((PyData.str ("pairs" : Str) :: y :: z :: u : List PyData).length : Int) = 2)) = true by simp only [Bool.not_eq_true', decide_eq_false_iff_not, List.length_cons]; omega]
              simp only [if_true, bp]
              cases y <;> rfl
          · rw [if_neg h2]
            have e1 : decide (("ring" : Str) = t) = false := decide_eq_false fun z => h1 z.symm
            have e2 : decide (("pairs" : Str) = t) = false := decide_eq_false fun z => h2 z.symm
            rw [e1, e2]
            rfl
      · have hs' : ∀ t, x ≠ .str t := fun t z => hs ⟨t, z⟩
        rw [eqv_strN hs', eqv_strN hs']
        simp only [Bool.or_self, Bool.not_false, if_true]
        have : faultR ls m (.tuple (x :: y :: w)) = dForm := by
          unfold faultR
          cases x <;> first | rfl | exact absurd rfl (hs' _)
        rw [this]; rfl
  | _ => rfl
end Lw

namespace Lw
open PySem PySem.Spec PyProof.Rows L2 Pz
variable {ls : List (List Int)} {m : Int}
theorem pair_form {p : List Int} (h : p ∈ lotsL m 2) : ∃ c d, p = [c, d] ∧ 0 ≤ c ∧ c < d ∧ d < m := by
  obtain ⟨hL, hlen⟩ := mem_lotsL.mp h
  match p, hlen with
  | [c, d], _ =>
    have h1 := hL.1
    simp at h1
    exact ⟨c, d, rfl, (hL.2 c (by simp)).1, h1, (hL.2 d (by simp)).2⟩
theorem pair_mem {c d : Int} (h0 : 0 ≤ c) (h1 : c < d) (h2 : d < m) : [c, d] ∈ lotsL m 2 := mem_lotsL.mpr ⟨⟨by simp [h1], fun x hx => by simp at hx; omega⟩, rfl⟩
theorem through_mem {p : List Int} {r : Int} : r ∈ throughL ls p ↔ (0 ≤ r ∧ r < ls.length) ∧ ∀ x ∈ p, x ∈ lineAt ls r := by
  unfold throughL subB
  rw [List.mem_filter, mem_irange, List.all_eq_true]
  simp
theorem two_common {r s c d : Int} (hr : c ∈ lineAt ls r) (hr2 : d ∈ lineAt ls r) (hs : c ∈ lineAt ls s) (hs2 : d ∈ lineAt ls s) (hcd : c < d) : 1 < (bothL (lineAt ls r) (lineAt ls s)).length := by
  have h1 : c ∈ bothL (lineAt ls r) (lineAt ls s) := List.mem_filter.mpr ⟨hr, by simpa using hs⟩
  have h2 : d ∈ bothL (lineAt ls r) (lineAt ls s) := List.mem_filter.mpr ⟨hr2, by simpa using hs2⟩
  match hb : bothL (lineAt ls r) (lineAt ls s) with
  | [] => rw [hb] at h1; cases h1
  | [x] =>
    rw [hb] at h1 h2
    rw [List.mem_singleton] at h1 h2
    omega
  | x :: y :: t => simp
theorem two_through (h : ringP ls = none) {p : List Int} (hp : p ∈ lotsL m 2) {r s : Int} (hr : r ∈ throughL ls p) (hs : s ∈ throughL ls p) : r = s := by
  obtain ⟨c, d, rfl, h0, h1, h2⟩ := pair_form hp
  have hr' := through_mem.mp hr
  have hs' := through_mem.mp hs
  have key : ∀ {r s : Int}, r ∈ throughL ls [c, d] → s ∈ throughL ls [c, d] → ¬ r < s := fun {r s} hr hs hrs => by
    have hr' := through_mem.mp hr
    have hs' := through_mem.mp hs
    have := ring_none h hr'.1.1 hrs hs'.1.2
    have h3 := two_common (hr'.2 c (by simp)) (hr'.2 d (by simp)) (hs'.2 c (by simp)) (hs'.2 d (by simp)) h1
    omega
  have a := key hr hs
  have b := key hs hr
  omega
theorem ring_line (hl : LinesOk m ls) {r s c d : Int} (h : ringP ls = some (r, s, c, d, ())) : 0 ≤ r ∧ r < s ∧ s < ls.length ∧ 0 ≤ c ∧ c < d ∧ d < m ∧ (c ∈ lineAt ls r ∧ d ∈ lineAt ls r) ∧ c ∈ lineAt ls s ∧ d ∈ lineAt ls s := by
  obtain ⟨h0, h1, h2, t, e⟩ := ring_some h
  have hL : Lot m (bothL (lineAt ls r) (lineAt ls s)) := (line_lot hl h0 (by omega)).sub List.filter_sublist
  have mem : ∀ x ∈ bothL (lineAt ls r) (lineAt ls s), x ∈ lineAt ls r ∧ x ∈ lineAt ls s := fun x hx => by
    have := List.mem_filter.mp hx
    exact ⟨this.1, by simpa using this.2⟩
  rw [e] at hL mem
  have hc := mem c (by simp)
  have hd := mem d (by simp)
  exact ⟨h0, h1, h2, (hL.2 c (by simp)).1, (List.pairwise_cons.mp hL.1).1 d (by simp), (hL.2 d (by simp)).2, ⟨hc.1, hd.1⟩, hc.2, hd.2⟩
theorem mapM_opts : ∀ os : List (Option Int), (os.map (eO eInt)).mapM asOI = some os
  | [] => rfl
  | o :: os => by
    rw [List.map_cons, List.mapM_cons, mapM_opts os]
    cases o <;> rfl
theorem formP_of (h0 : 0 ≤ m) (h9 : m ≤ 9) {n : Int} {os : List (Option Int)} (ho : RowsOk n m os) : formP n m [.tuple (os.map (eO eInt))] = some os := by
  have ha : (os.map (eO eInt)).all (fun r => (asRow n r).isSome) = true := by
    rw [List.all_eq_true]
    intro d hd
    obtain ⟨o, hm, rfl⟩ := List.mem_map.mp hd
    cases o with
    | none => rfl
    | some r =>
      have := ho.row r hm
      show (asRow n (.int r)).isSome = true
      rw [asRow_pos this.1 this.2]; rfl
  obtain ⟨os2, e1, e2, _⟩ := mapM_row ha
  rw [mapM_opts] at e2
  cases e2
  unfold formP
  dsimp only
  have hc := lots2_count h0 h9
  have hlen := ho.len
  rw [if_pos ⟨by rw [List.length_map]; omega, ha⟩, e1]
theorem rows_ok (ls : List (List Int)) (m : Int) : RowsOk ls.length m (rowsP ls m) := ⟨by unfold rowsP; rw [List.length_map], fun r hr => by
  unfold rowsP at hr
  obtain ⟨p, _, e⟩ := List.mem_map.mp hr
  exact (through_mem.mp (List.mem_of_head? e)).1⟩
theorem enum_rows {q : Int × Option Int × Unit} (h : q ∈ enumL (rowsP ls m)) : q.2.1 = (throughL ls (pairAt m q.1)).head? ∧ pairAt m q.1 ∈ lotsL m 2 := by
  have hlt := enum_lt h
  have h3 := hlt.2.2
  unfold rowsP at h3 hlt
  rw [List.length_map] at hlt
  rw [List.getElem?_map] at h3
  obtain ⟨p, hp, e⟩ := Option.map_eq_some_iff.mp h3
  have hpa : pairAt m q.1 = p := by
    unfold pairAt
    rw [List.getD_eq_getElem?_getD, hp]; rfl
  rw [hpa]
  exact ⟨e.symm, List.mem_of_getElem? hp⟩
theorem fault_paper (hl : LinesOk m ls) : faultR ls m (paperP ls m) = .none := by
  unfold paperP
  cases hr : ringP ls with
  | some q =>
    obtain ⟨r, s, c, d, u⟩ := q
    obtain ⟨h0, h1, h2, h3, h4, h5, h6, h7⟩ := ring_line hl hr
    unfold faultR
    dsimp only
    rw [if_pos rfl]
    have hf : formR ls.length m [.int r, .int s, .int c, .int d] = some (r, s, c, d) := by
      unfold formR
      dsimp only
      rw [asCnt_pos h0, asCnt_pos (by omega : 0 ≤ s), asCnt_pos h3, asCnt_pos (by omega : 0 ≤ d)]
      dsimp only
      rw [if_pos ⟨h1, h2, h4, h5⟩]
    rw [hf]
    dsimp only
    unfold ringF
    have : [(r, c, ()), (r, d, ()), (s, c, ()), (s, d, ())].find? (fun q : Int × Int × Unit => !decide (q.2.1 ∈ lineAt ls q.1)) = none := by
      rw [List.find?_eq_none]
      intro q hq
      simp only [List.mem_cons, List.not_mem_nil, or_false] at hq
      rcases hq with rfl | rfl | rfl | rfl
      · simpa using h6.1
      · simpa using h6.2
      · simpa using h7.1
      · simpa using h7.2
    rw [this]
  | none =>
    dsimp only
    unfold faultR
    dsimp only
    rw [if_neg ne_rp, if_pos rfl, show ([eT (eO eInt) (rowsP ls m)] : List PyData) = [.tuple ((rowsP ls m).map (eO eInt))] from rfl, formP_of hl.m0 hl.m9 (rows_ok ls m)]
    dsimp only
    unfold pairsF
    have h1 : (enumL (rowsP ls m)).find? (offB ls m) = none := by
      rw [List.find?_eq_none]
      intro q hq
      obtain ⟨e, hp⟩ := enum_rows hq
      unfold offB
      cases ho : q.2.1 with
      | none => simp
      | some r =>
        rw [ho] at e
        have := (through_mem.mp (List.mem_of_head? e.symm)).2
        have hs : subB (pairAt m q.1) (lineAt ls r) = true := by
          unfold subB
          rw [List.all_eq_true]
          intro x hx
          simpa using this x hx
        simp [hs]
    have h2 : ((enumL (rowsP ls m)).findSome? fun q => (moreL ls m q).head?.map fun s => PyData.tuple [.str "more", .int q.1, .int s]) = none := by
      rw [List.findSome?_eq_none_iff]
      intro q hq
      obtain ⟨e, hp⟩ := enum_rows hq
      rw [Option.map_eq_none_iff, List.head?_eq_none_iff]
      unfold moreL
      rw [List.filter_eq_nil_iff]
      intro s hs
      cases ho : q.2.1 with
      | none =>
        rw [ho] at e
        rw [List.head?_eq_none_iff.mp e.symm] at hs
        cases hs
      | some r =>
        rw [ho] at e
        have := two_through hr hp hs (List.mem_of_head? e.symm)
        simp [this]
    rw [h1, h2]
theorem fault_head (hl : LinesOk m ls) {v : PyData} (h : faultR ls m v = .none) : ∃ t r r2, v = .tuple (.str t :: r) ∧ paperP ls m = .tuple (.str t :: r2) := by
  unfold faultR at h
  split at h
  · rename_i t rest
    split at h
    · rename_i ht
      subst ht
      split at h
      · rename_i r s c d hf
        obtain ⟨rfl, g0, g1, g2, g3, g4, g5⟩ := formR_some hf
        unfold ringF at h
        split at h
        · cases h
        · rename_i hn
          rw [List.find?_eq_none] at hn
          have a1 : c ∈ lineAt ls r := by simpa using hn (r, c, ()) (by simp)
          have a2 : d ∈ lineAt ls r := by simpa using hn (r, d, ()) (by simp)
          have a3 : c ∈ lineAt ls s := by simpa using hn (s, c, ()) (by simp)
          have a4 : d ∈ lineAt ls s := by simpa using hn (s, d, ()) (by simp)
          cases hp : ringP ls with
          | none =>
            have := ring_none hp g0 g1 g2
            have := two_common a1 a2 a3 a4 g4
            omega
          | some q =>
            obtain ⟨r', s', c', d', u⟩ := q
            exact ⟨_, _, _, rfl, by unfold paperP; rw [hp]⟩
      · cases h
    · split at h
      · rename_i ht
        subst ht
        split at h
        · rename_i os hf
          obtain ⟨rfl, ho, _⟩ := formP_some hl.m0 hl.m9 hf
          unfold pairsF at h
          split at h
          · cases h
          · split at h
            · rename_i d hd
              obtain ⟨q, _, e⟩ := List.exists_of_findSome?_eq_some hd
              obtain ⟨s, _, e2⟩ := Option.map_eq_some_iff.mp e
              rw [← e2] at h
              cases h
            · rename_i hn
              rw [List.findSome?_eq_none_iff] at hn
              cases hp : ringP ls with
              | none => exact ⟨_, _, _, rfl, by unfold paperP; rw [hp]⟩
              | some q =>
                obtain ⟨r, s, c, d, u⟩ := q
                obtain ⟨h0, h1, h2, h3, h4, h5, h6, h7⟩ := ring_line hl hp
                obtain ⟨k, hk⟩ := List.getElem?_of_mem (pair_mem h3 h4 h5)
                have hkl : k < os.length := by rw [ho.len]; exact (List.getElem?_eq_some_iff.mp hk).1
                have hq : ((k : Int), os[k], ()) ∈ enumL os := List.mem_of_getElem? (i := k) (by rw [enumL_get, List.getElem?_eq_getElem hkl]; rfl)
                have := hn _ hq
                rw [Option.map_eq_none_iff, List.head?_eq_none_iff] at this
                have hpa : pairAt m ((k : Int)) = [c, d] := by
                  unfold pairAt
                  rw [show ((k : Int)).toNat = k by omega, List.getD_eq_getElem?_getD, hk]; rfl
                unfold moreL at this
                dsimp only at this
                rw [hpa, List.filter_eq_nil_iff] at this
                have b1 := this r (through_mem.mpr ⟨⟨h0, by omega⟩, fun x hx => by simp at hx; rcases hx with rfl | rfl; exact h6.1; exact h6.2⟩)
                have b2 := this s (through_mem.mpr ⟨⟨by omega, h2⟩, fun x hx => by simp at hx; rcases hx with rfl | rfl; exact h7.1; exact h7.2⟩)
                simp at b1 b2
                rw [← b1] at b2
                simp at b2
                omega
        · cases h
      · cases h
  · cases h
theorem nil0 {f : Bool} : Sgs f 7 0 [] := Sgs.nil.mono (Nat.zero_le _) (Nat.le_refl 0)
theorem fault_rep (hl : LinesOk m ls) (v : PyData) : ∃ z, reprO (faultR ls m v) = some z := by
  have t1 : ∀ {ds : List PyData} {w : Nat}, Sgs false 7 w ds → w ≤ 3000 → ∃ z, reprO (.tuple ds) = some z := fun h hw => ⟨_, ((Sg.tup h).mono (by decide) hw).rep (wt := 3000)⟩
  have form : ∃ z, reprO dForm = some z := t1 (Sgs.cons (sstr (by decide +kernel) (by decide +kernel)) nil0) (by decide)
  have non : ∃ z, reprO PyData.none = some z := ⟨_, (Sg.non (f := false) |>.mono (by decide) (Nat.le_refl 0)).rep (wt := 0)⟩
  have few := hl.few
  have m9 := hl.m9
  unfold faultR
  split
  · split
    · split
      · rename_i r s c d hf
        obtain ⟨rfl, g0, g1, g2, g3, g4, g5⟩ := formR_some hf
        unfold ringF
        split
        · rename_i q hq
          have hm := List.mem_of_find?_eq_some hq
          have hb : 0 ≤ q.1 ∧ q.1 < 100 ∧ 0 ≤ q.2.1 ∧ q.2.1 < 100 := by
            simp only [List.mem_cons, List.not_mem_nil, or_false] at hm
            rcases hm with rfl | rfl | rfl | rfl <;> (dsimp only; omega)
          exact t1 (Sgs.cons (sstr (by decide +kernel) (by decide +kernel)) (Sgs.cons (s_int (by omega)) (Sgs.cons (s_int (by omega)) nil0))) (by decide)
        · exact non
      · exact form
    · split
      · split
        · rename_i os hf
          obtain ⟨rfl, ho, _⟩ := formP_some hl.m0 hl.m9 hf
          have hlen := lots2_len hl.m9
          rw [← ho.len] at hlen
          unfold pairsF
          split
          · rename_i q hq
            have := enum_lt (List.mem_of_find?_eq_some hq)
            exact t1 (Sgs.cons (sstr (by decide +kernel) (by decide +kernel)) (Sgs.cons (s_int (by omega)) nil0)) (by decide)
          · split
            · rename_i d hd
              obtain ⟨q, hq, e⟩ := List.exists_of_findSome?_eq_some hd
              obtain ⟨s, hs, e2⟩ := Option.map_eq_some_iff.mp e
              subst e2
              have := enum_lt hq
              have hs2 := List.mem_of_head? hs
              unfold moreL at hs2
              have hs3 := (through_mem.mp (List.mem_filter.mp hs2).1).1
              exact t1 (Sgs.cons (sstr (by decide +kernel) (by decide +kernel)) (Sgs.cons (s_int (by omega)) (Sgs.cons (s_int (by omega)) nil0))) (by decide)
            · exact non
        · exact form
      · exact form
  · exact form
theorem p_ldraw (h0 : 0 ≤ m) (h9 : m ≤ 9) : Sat (m__law_draw m 8) (LinesOk m) := by
  unfold m__law_draw
  simp only [bp, bind_ret, optM_some, Pz.bind_assoc]
  rw [sm100 (xs := ([] : List (List Int))) (by simp), bp]
  refine Sat.bind2 (Sat.pick (Q := fun _ => True) (by omega) fun _ _ _ => trivial) fun w _ => ?_
  refine Sat.bind2 (Sat.pick (Q := fun k => 0 ≤ k ∧ k ≤ 8) (by omega) fun r h1 h2 => by omega) fun k hk => ?_
  rw [rangeM_sm (lo := 0) (by omega) (by omega) (by omega) (by omega), bp]
  refine (Sat.forR (I := fun i (ls : List (List Int)) => (ls.length : Int) ≤ i ∧ ∀ l ∈ ls, Lot m l) _ rfl hk.1 ⟨by simp, by simp⟩ fun i ls hi hik hI => ?_).mono fun ls hI => ⟨h0, h9, by have := hI.1; omega, hI.2⟩
  obtain ⟨hlen, hls⟩ := hI
  rw [rangeM_sm (lo := 0) (by omega) (by omega) (by omega) (by omega), bp]
  refine Sat.bind2 (Sat.compSub fun x _ => Sat.bind2 (Sat.pick (Q := fun _ => True) (by omega) fun _ _ _ => trivial) fun _ _ => .pure trivial) fun line hline => ?_
  have hL : Lot m line := lot_irange.sub hline
  refine Sat.bind2 (Q := fun _ => True) ?_ fun b _ => Sat.ite (fun _ => ?_) fun _ => .pure ⟨by omega, hls⟩
  · refine Sat.ite (fun _ => .pure trivial) fun _ => ?_
    rw [sm100 (xs := [line]) (by simp), bp, catO_ok (by simp [sizeLine]; omega), optM_some, bp, p_open_L _ (by simp; omega)]
    exact .pure trivial
  · rw [appM_ok (by unfold sizeLine; omega)]
    refine .pure ⟨by simp; omega, fun l hl => ?_⟩
    rcases List.mem_append.mp hl with hl | hl
    · exact hls l hl
    · rw [List.mem_singleton] at hl; subst hl; exact hL
end Lw

namespace Lw
open PySem PySem.Spec PyProof.Rows L2 Pz
variable {ls : List (List Int)} {m : Int}
def SS : List Str := ["ring", "pairs"]
theorem ss_ring : ("ring" : Str) ∈ SS := by decide +kernel
theorem ss_pairs : ("pairs" : Str) ∈ SS := by decide +kernel
theorem s_ring {f : Bool} : Sg f 7 100 (.str ("ring" : Str)) := sstr (by decide +kernel) (by decide +kernel)
theorem s_pairs {f : Bool} : Sg f 7 100 (.str ("pairs" : Str)) := sstr (by decide +kernel) (by decide +kernel)
/-- rows of a paper: small numbers or None -/
structure OsOk (os : List (Option Int)) : Prop where
  few : os.length ≤ 50
  small : ∀ r, some r ∈ os → r.natAbs < 10 ^ 30
theorem OsOk.sgs {f : Bool} {os : List (Option Int)} (h : OsOk os) : Sgs f 5 5050 (os.map (eO eInt)) := by
  have k := Sgs.all (f := f) (dp := 0) (w := 100) (ds := os.map (eO eInt)) fun d hd => by
    obtain ⟨o, ho, rfl⟩ := List.mem_map.mp hd
    cases o with
    | none => exact Sg.non.mono (Nat.le_refl _) (by decide)
    | some i => exact Sg.int (h.small i ho)
  rw [List.length_map] at k
  exact k.mono (by decide) (by have := h.few; omega)
theorem OsOk.sub {os os2 : List (Option Int)} (h : OsOk os) (hl : os2.length ≤ os.length) (hs : ∀ o ∈ os2, o ∈ os) : OsOk os2 := ⟨by have := h.few; omega, fun r hr => h.small r (hs _ hr)⟩
theorem gv2 {f : Bool} {x : PyData} {w : Nat} (h : Sg f 7 w x) (hw : w ≤ 19000) : GvS SS (.tuple [.str "pairs", x]) := .tup (Sgs.cons s_pairs (Sgs.cons h nil0)) (by omega) fun s r e => by cases e; exact ss_pairs
theorem gring {f : Bool} {l : List Int} (h : RowB 10 l) : GvS SS (.tuple (.str "ring" :: l.map eInt)) := .tup (f := f) (Sgs.cons s_ring ((sgs_ints h).mono (by decide) (Nat.le_refl _))) (by decide) fun s r e => by cases e; exact ss_ring
theorem odds {n : Int} (h0 : 0 ≤ n) (h9 : n ≤ 9) : ∀ d ∈ ([eNon (), eP eU (), eInt 0, eStr "ring", eP (eC eInt (eC eInt eU)) (0, n, ()), eL eInt [0], eBool true, PyData.dict [], eInt (0 - 1), eInt n] : List PyData), OddS SS d := by
  intro d hd
  simp only [List.mem_cons, List.not_mem_nil, or_false] at hd
  have si : ∀ {f : Bool} (i : Int), i.natAbs < 10 ^ 30 → Sg f 0 100 (.int i) := fun i h => Sg.int h
  rcases hd with rfl | rfl | rfl | rfl | rfl | rfl | rfl | rfl | rfl | rfl
  · exact ⟨⟨true, Sg.non.mono (by decide) (by decide)⟩, fun s r e => by simp [eNon] at e, fun s e => by simp [eNon] at e⟩
  · exact ⟨⟨true, (Sg.tup Sgs.nil).mono (by decide) (by decide)⟩, fun s r e => by simp [eP, eU] at e, fun s e => by simp [eP] at e⟩
  · exact ⟨⟨true, (si 0 (by decide)).mono (by decide) (by decide)⟩, fun s r e => by simp [eInt] at e, fun s e => by simp [eInt] at e⟩
  · exact ⟨⟨true, (Sg.str (by decide +kernel) (by decide +kernel)).mono (by decide) (by decide)⟩, fun s r e => by simp [eStr] at e, fun s e => by cases e; decide +kernel⟩
  · exact ⟨⟨true, (Sg.tup (Sgs.cons (si 0 (by decide)) (Sgs.cons (si n (by omega)) Sgs.nil))).mono (by decide) (by decide)⟩, fun s r e => by simp [eP, eC, eInt] at e, fun s e => by simp [eP] at e⟩
  · exact ⟨⟨false, (Sg.lst (Sgs.cons (si 0 (by decide)) Sgs.nil)).mono (by decide) (by decide)⟩, fun s r e => by simp [eL] at e, fun s e => by simp [eL] at e⟩
  · exact ⟨⟨true, Sg.bool.mono (by decide) (by decide)⟩, fun s r e => by simp [eBool] at e, fun s e => by simp [eBool] at e⟩
  · exact ⟨⟨true, Sg.dict.mono (by decide) (by decide)⟩, fun s r e => by simp at e, fun s e => by simp at e⟩
  · exact ⟨⟨true, (si (0 - 1) (by decide)).mono (by decide) (by decide)⟩, fun s r e => by simp [eInt] at e, fun s e => by simp [eInt] at e⟩
  · exact ⟨⟨true, (si n (by omega)).mono (by decide) (by decide)⟩, fun s r e => by simp [eInt] at e, fun s e => by simp [eInt] at e⟩
theorem rows_os (hl : LinesOk m ls) : OsOk (rowsP ls m) := by
  have ho := rows_ok ls m
  have h1 := lots2_count hl.m0 hl.m9
  have h2 := hl.few
  have m9 := hl.m9
  have m0 := hl.m0
  have hm : m = 0 ∨ m = 1 ∨ m = 2 ∨ m = 3 ∨ m = 4 ∨ m = 5 ∨ m = 6 ∨ m = 7 ∨ m = 8 ∨ m = 9 := by omega
  refine ⟨?_, fun r hr => by have := ho.row r hr; omega⟩
  rw [ho.len]
  rcases hm with rfl | rfl | rfl | rfl | rfl | rfl | rfl | rfl | rfl | rfl <;> omega
theorem lots2_le (h0 : 0 ≤ m) (h9 : m ≤ 9) : (lotsL m 2).length ≤ 50 := by
  have h1 := lots2_count h0 h9
  have hm : m = 0 ∨ m = 1 ∨ m = 2 ∨ m = 3 ∨ m = 4 ∨ m = 5 ∨ m = 6 ∨ m = 7 ∨ m = 8 ∨ m = 9 := by omega
  rcases hm with rfl | rfl | rfl | rfl | rfl | rfl | rfl | rfl | rfl | rfl <;> omega
/-- the paper: its parts, shown -/
theorem paper_form (hl : LinesOk m ls) : (ringP ls = none ∧ paperP ls m = .tuple [.str "pairs", eT (eO eInt) (rowsP ls m)]) ∨ (ringP ls ≠ none ∧ ∃ l, RowB 10 l ∧ l.length = 4 ∧ paperP ls m = .tuple (.str "ring" :: l.map eInt)) := by
  unfold paperP
  cases hr : ringP ls with
  | none => exact .inl ⟨rfl, rfl⟩
  | some q =>
    obtain ⟨r, s, c, d, u⟩ := q
    obtain ⟨h0, h1, h2, h3, h4, h5, _⟩ := ring_line hl hr
    have := hl.few
    have := hl.m9
    exact .inr ⟨by simp, [r, s, c, d], ⟨by simp, fun x hx => by simp at hx; omega⟩, rfl, rfl⟩
structure PapOk (ls : List (List Int)) (m : Int) (h : Str) (ts : List PyData) : Prop where
  eq : paperP ls m = .tuple (.str h :: ts)
  few : ts.length ≤ 4
  op : decide (h = ("pairs" : Str)) = openB ls
  g : GvS SS (.tuple (.str h :: ts))
  gl : GvS SS (.list (.str h :: ts))
  g1 : GvS SS (.tuple [.str h])
  g0 : GvS SS (.tuple (.str h :: (ts ++ [eInt 0])))
  rows : h = ("pairs" : Str) → ∃ os, OsOk os ∧ ts = [eT (eO eInt) os]
theorem pap_ok (hl : LinesOk m ls) : ∃ h ts, PapOk ls m h ts := by
  have hop := open_ring hl
  have z0 : ∀ {f : Bool}, Sg f 7 100 (eInt 0) := s_int (by decide)
  rcases paper_form hl with ⟨hr, e⟩ | ⟨hr, l, hb, hlen, e⟩
  · have ho := rows_os hl
    have so : ∀ {f : Bool}, Sg f 7 5050 (eT (eO eInt) (rowsP ls m)) := (Sg.tup ho.sgs).mono (by decide) (Nat.le_refl _)
    refine ⟨_, _, ⟨e, by simp, by rw [hop, hr]; rfl, gv2 (f := false) so (by decide), ?_, ?_, ?_, fun _ => ⟨_, ho, rfl⟩⟩⟩
    · exact .flat (f := false) ((Sg.lst (Sgs.cons s_pairs (Sgs.cons so nil0))).mono (by decide) (by decide)) fun ds => by simp
    · exact .tup (f := false) (Sgs.cons s_pairs nil0) (by decide) fun s r e => by cases e; exact ss_pairs
    · exact .tup (f := false) (Sgs.cons s_pairs (Sgs.cons so (Sgs.cons z0 nil0))) (by decide) fun s r e => by cases e; exact ss_pairs
  · have sl : ∀ {f : Bool}, Sgs f 7 1010 (l.map eInt) := (sgs_ints hb).mono (by decide) (Nat.le_refl _)
    have hne : ¬ ((("ring" : String) : Str) = ("pairs" : String)) := fun z => ne_rp z.symm
    refine ⟨_, _, ⟨e, by rw [List.length_map]; omega, ?_, gring (f := false) hb, ?_, ?_, ?_, fun z => absurd z hne⟩⟩
    · rw [hop, decide_eq_false hne]
      cases h : ringP ls with
      | none => exact absurd h hr
      | some _ => rfl
    · exact .flat (f := false) ((Sg.lst (Sgs.cons s_ring sl)).mono (by decide) (by decide)) fun ds => by simp
    · exact .tup (f := false) (Sgs.cons s_ring nil0) (by decide) fun s r e => by cases e; exact ss_ring
    · exact .tup (f := false) (Sgs.cons s_ring (Sgs.append (Sgs.cons z0 nil0) sl)) (by decide) fun s r e => by cases e; exact ss_ring
theorem tD (l : List PyData) : eT eD l = .tuple l := by simp [eT, map_eD]
theorem lD (l : List PyData) : eL eD l = .list l := by simp [eL, map_eD]
theorem pick1 {n : Int} (h9 : n ≤ 100) : Sat (pickM (max 1 n)) fun r => 0 ≤ r ∧ r < max 1 n := Sat.pick (by omega) fun r h1 h2 => by omega
theorem p_law : Sat m_law fun r => r = true := by
  unfold m_law
  simp only [bp, bind_ret, optM_some, Pz.bind_assoc, eD]
  simp (config := { maxSteps := 10000000 }) (disch := first | decide | simp) only [bp, sm100]
  rw [rangeM_sm (lo := 0) (hi := 5) (by omega) (by omega) (by omega) (by omega), bp]
  refine Sat.bind2 (Sat.forO (I := fun _ => True) trivial fun b lap hlap _ => ?_) fun o ho => ?_
  · rw [mem_irange] at hlap
    obtain ⟨mm, hmm, hmm1, hmm2⟩ : ∃ mm, atI [(3 : Int), 4, 5, 7, 9] lap = some mm ∧ 3 ≤ mm ∧ mm ≤ 9 := by
      obtain ⟨x, e1, e2⟩ := atI_ok (xs := [(3 : Int), 4, 5, 7, 9]) hlap.1 (by simp; omega)
      have := List.mem_of_getElem? e2
      simp at this
      exact ⟨x, e1, by omega, by omega⟩
    rw [hmm, optM_some, bp]
    refine Sat.bind2 (Sat.pick (Q := fun n => 0 ≤ n ∧ n ≤ 8) (by omega) fun r h1 h2 => by omega) fun m hm => ?_
    refine Sat.bind2 (p_ldraw hm.1 (by omega)) fun ls hl => ?_
    have few := hl.few
    have hlen2 := lots2_le hm.1 (by omega : m ≤ 9)
    have hkept : reprO (eT (eT eInt) ls) = some (eT (eT eInt) ls).shown := by
      have k := Sgs.all (f := false) (dp := 1) (w := 1010) (ds := ls.map (eT eInt)) fun d hd => by
        obtain ⟨l, hll, rfl⟩ := List.mem_map.mp hd
        have hL := hl.lot l hll
        have h1 := lot_len hL hl.m0
        exact (Sg.ints 10 (by omega) fun x hx => by have := hL.2 x hx; omega).mono (Nat.le_refl _) (by decide)
      rw [List.length_map] at k
      exact ((Sg.tup k).mono (by decide) (Nat.mul_le_mul_right _ few) : Sg false 60 (8 * 1011) (eT (eT eInt) ls)).rep
    obtain ⟨h, ts, P⟩ := pap_ok hl
    rw [hkept, optM_some, bp, p_paper hl, bp, p_law_some (k := 2) hm.1 (by omega) (by decide), bp, show (2 : Int).toNat = 2 from rfl]
    have hft := fault_paper hl
    rw [P.eq] at hft ⊢
    simp only [asTup_t, optM_some, bp, at0, eqZ_str]
    rw [p_open ls (by omega), bp, P.op]
    rw [p_lfault hl P.g.pl (Nat.le_trans P.g.dp (by decide)), hft]
    simp only [bp, show Pz.isNon PyData.none = true from rfl, decide_true, Bool.not_true, Bool.false_eq_true, if_false]
    refine Sat.bind2 (Sat.compAll (Q := fun o : Option Int => ∀ r, o = some r → 0 ≤ r ∧ r < 10) fun x _ => ?_) fun drawn hdrawn => ?_
    · refine Sat.bind2 (Q := fun l : List (Option Int) => l.length = 2 ∧ ∀ o ∈ l, ∀ r, o = some r → 0 ≤ r ∧ r < 10) ?_ fun l hlx => ?_
      · refine fun st => ?_
        obtain ⟨r, st', e, hr⟩ := pick1 (n := ls.length) (by omega) st
        refine ⟨[none, some r], st', ?_, rfl, fun o ho r' e' => ?_⟩
        · unfold smallM
          unfold Pz.bindM
          rw [show m__law_pick (max 1 ↑ls.length) st = some (r, st') from e]
          rfl
        · simp at ho
          rcases ho with rfl | rfl
          · cases e'
          · cases e'; omega
      · refine Sat.bind2 (Sat.pick (Q := fun k => 0 ≤ k ∧ k < 2) (by omega) fun r h1 h2 => by omega) fun k hk => ?_
        obtain ⟨x, e1, e2⟩ := atI_ok (xs := l) hk.1 (by omega)
        exact Sat.opt e1 (hlx.2 x (List.mem_of_getElem? e2))
    have hdo : OsOk drawn := ⟨by omega, fun r hr => by have := hdrawn.2 _ hr r rfl; omega⟩
    refine Sat.bind2 (Q := fun l : List Int => l.length = 2 ∧ ∀ x ∈ l, 0 ≤ x ∧ x ≤ 10) ?_ fun s1 hs1 => ?_
    · refine fun st => ?_
      obtain ⟨r, st', e, hr⟩ := pick1 (n := ls.length) (by omega) st
      obtain ⟨r2, st2, e2, hr2⟩ := pick1 (n := ls.length) (by omega) st'
      refine ⟨[r, r2], st2, ?_, rfl, fun x hx => by simp at hx; omega⟩
      unfold smallM
      unfold Pz.bindM
      rw [show m__law_pick (max 1 ↑ls.length) st = some (r, st') from e]
      dsimp only
      rw [show m__law_pick (max 1 ↑ls.length) st' = some (r2, st2) from e2]
      rfl
    refine Sat.bind2 (pick1 (n := m) (by omega)) fun a ha => ?_
    refine Sat.bind2 (pick1 (n := m) (by omega)) fun b hb => ?_
    rw [catO_ok (by simp [sizeLine]; omega), optM_some, bp]
    have hsome : RowB 10 (s1 ++ [a, b]) := ⟨by simp; omega, fun x hx => by
      rcases List.mem_append.mp hx with hx | hx
      · exact hs1.2 x hx
      · simp at hx; omega⟩
    have hsome4 : (s1 ++ [a, b]).length = 4 := by simp; omega
    generalize s1 ++ [a, b] = some4 at hsome hsome4 ⊢
    refine Sat.bind2 (pick1 (by omega)) fun k hk => ?_
    have hod := odds (n := ls.length) (by omega) (by omega)
    refine Sat.bind2 (Sat.pick (Q := fun k => 0 ≤ k ∧ k < 10) (by omega) fun r h1 h2 => by omega) fun k10 hk10 => ?_
    obtain ⟨odd, hodd1, hodd2⟩ := atI_ok (xs := ([eNon (), eP eU (), eInt 0, eStr ("ring" : Str), eP (eC eInt (eC eInt eU)) (0, (ls.length : Int), ()), eL eInt [0], eBool true, PyData.dict [], eInt (0 - 1), eInt (ls.length : Int)] : List PyData)) hk10.1 (by simp; omega)
    have hodd := hod odd (List.mem_of_getElem? hodd2)
    rw [hodd1, optM_some, bp]
    obtain ⟨fo, hfo⟩ := hodd.sg
    have hfo7 : Sg fo 7 400 odd := hfo.mono (by decide) (Nat.le_refl _)
    refine Sat.bind2 (Q := fun t => ∃ os, OsOk os ∧ t = eT (eO eInt) os) ?_ fun told htold => ?_
    · refine Sat.ite (fun e => ?_) fun _ => .pure ⟨drawn, hdo, rfl⟩
      rw [← P.op, decide_eq_true_eq] at e
      obtain ⟨os, hos, e2⟩ := P.rows e
      rw [e2]
      exact Sat.opt (at1 _ _ _) ⟨os, hos, rfl⟩
    obtain ⟨os, hos, rfl⟩ := htold
    have nofew := hos.few
    have a1 : AllS SS 7 [.tuple (.str h :: ts), eL eD (.str h :: ts), eT eD (cutL (.str h :: ts) none (some 1)), eT eD (.str h :: ts ++ [eInt 0]), eP (eC eStr (eC (eT (eO eInt)) eU)) ("pairs", drawn, ()), eT eD ([eStr "ring"] ++ some4.map eInt), odd] := by
      refine .cons P.g (.cons ?_ (.cons ?_ (.cons ?_ (.cons (gv2 (f := false) (x := eT (eO eInt) drawn) ((Sg.tup hdo.sgs).mono (by decide) (Nat.le_refl _)) (by decide)) (.cons ?_ (.cons ⟨⟨fo, hfo.mono (by decide) (by decide)⟩, hodd.hd⟩ .nil))))))
      · rw [lD]; exact P.gl
      · rw [Pz.cut_to _ (by decide), tD]; exact P.g1
      · rw [tD]; exact P.g0
      · rw [tD]; exact gring (f := false) hsome
    rw [catO_ok (by have := P.few; simp [sizeLine]; omega), optM_some, bp, catO_ok (by simp [sizeLine]; omega), optM_some, bp, sm100 (Nat.le_trans a1.1 (by decide)), bp, appM_ok (by have := a1.1; unfold sizeLine; omega), bp]
    have a2 : AllS SS 1 [eP (eC eStr (eC eD eU)) ("pairs", odd, ())] := .cons (gv2 hfo7 (by decide)) .nil
    generalize ([.tuple (.str h :: ts), eL eD (.str h :: ts), eT eD (cutL (.str h :: ts) none (some 1)), eT eD (.str h :: ts ++ [eInt 0]), eP (eC eStr (eC (eT (eO eInt)) eU)) ("pairs", drawn, ()), eT eD ([eStr "ring"] ++ some4.map eInt), odd] : List PyData) = l1 at a1 ⊢
    have b2 : AllS SS 8 (l1 ++ [eP (eC eStr (eC eD eU)) ("pairs", odd, ())]) := ⟨by have := a1.1; simp; omega, fun v hv => by
      rcases List.mem_append.mp hv with hv | hv
      · exact a1.2 v hv
      · exact a2.2 v hv⟩
    generalize l1 ++ [eP (eC eStr (eC eD eU)) ("pairs", odd, ())] = l2 at b2 ⊢
    -- told[:k] + (x,) + told[k + 1:]
    have cut1 : OsOk (os.take k.toNat) := hos.sub (by rw [List.length_take]; omega) fun o ho => List.mem_of_mem_take ho
    have cut2 : OsOk (os.drop (k + 1).toNat) := hos.sub (by rw [List.length_drop]; omega) fun o ho => List.mem_of_mem_drop ho
    have swap : ∀ {f : Bool} {x : PyData}, Sg f 5 400 x → GvS SS (eP (eC eStr (eC (eT eD) eU)) ("pairs", cutL (os.map (eO eInt)) none (some k) ++ [x] ++ cutL (os.map (eO eInt)) (some (k + 1)) none, ())) := fun {f} {x} hx => by
      rw [Pz.cut_to _ hk.1, Pz.cut_from _ (by omega), ← List.map_take, ← List.map_drop]
      refine gv2 (f := f) (x := eT eD _) (w := 5050 + (400 + 1 + 0) + 5050) ?_ (by decide)
      rw [show ∀ l : List PyData, eT eD l = .tuple l from fun l => by simp [eT, map_eD]]
      exact (Sg.tup (Sgs.append cut2.sgs (Sgs.append (Sgs.cons hx (Sgs.nil.mono (Nat.zero_le _) (Nat.le_refl 0))) cut1.sgs))).mono (by decide) (Nat.le_refl _)
    rw [show asTup (eT (eO eInt) os) = some (os.map (eO eInt)) from rfl]
    have l1' : (cutL (os.map (eO eInt)) none (some k)).length ≤ 50 := by rw [Pz.cut_to _ hk.1, List.length_take, List.length_map]; omega
    have l2' : (cutL (os.map (eO eInt)) (some (k + 1)) none).length ≤ 50 := by rw [Pz.cut_from _ (by omega), List.length_drop, List.length_map]; omega
    simp only [optM_some, bp]
    rw [catO_ok (xs := cutL (os.map (eO eInt)) none (some k)) (ys := [odd]) (by simp [sizeLine]; omega), optM_some, bp, catO_ok (xs := cutL (os.map (eO eInt)) none (some k) ++ [odd]) (by simp [sizeLine]; omega), optM_some, bp, catO_ok (xs := cutL (os.map (eO eInt)) none (some k)) (ys := [eNon ()]) (by simp [sizeLine]; omega), optM_some, bp, catO_ok (xs := cutL (os.map (eO eInt)) none (some k) ++ [eNon ()]) (by simp [sizeLine]; omega), optM_some, bp]
    have a3 : AllS SS 2 [eP (eC eStr (eC (eT eD) eU)) ("pairs", cutL (os.map (eO eInt)) none (some k) ++ [odd] ++ cutL (os.map (eO eInt)) (some (k + 1)) none, ()), eP (eC eStr (eC (eT eD) eU)) ("pairs", cutL (os.map (eO eInt)) none (some k) ++ [eNon ()] ++ cutL (os.map (eO eInt)) (some (k + 1)) none, ())] :=
      .cons (swap hfo) (.cons (swap (f := false) (Sg.non.mono (by decide) (by decide))) .nil)
    rw [sm100 (Nat.le_trans a3.1 (by decide)), bp]
    refine Sat.bind2 (AllS.cat b2 a3) fun l3 b3 => ?_
    have c3 : RowB 10 (some4.drop (Int.toNat 1)) := rowb_sub hsome (by rw [List.length_drop]; omega) fun y hy => List.mem_of_mem_drop hy
    rw [Pz.cut_from some4 (by decide), catO_ok (by simp [sizeLine]; omega), optM_some, bp, catO_ok (by simp [sizeLine]; omega), optM_some, bp]
    have sl : ∀ {f : Bool} {l : List Int}, RowB 10 l → Sgs f 7 1010 (l.map eInt) := fun h => (sgs_ints h).mono (by decide) (Nat.le_refl _)
    have a4 : AllS SS 4 [eP (eC eStr (eC eInt (eC eInt (eC eInt (eC eInt eU))))) ("ring", 0, 1, 0, 1, ()), eT eD ([eStr "ring", odd] ++ (some4.drop (Int.toNat 1)).map eInt), eT eD ([odd] ++ some4.map eInt), eP (eC eStr (eC (eL eD) eU)) ("pairs", os.map (eO eInt), ())] := by
      refine .cons (gring (f := false) (l := [0, 1, 0, 1]) ⟨by simp, by simp⟩) (.cons ?_ (.cons ?_ (.cons (gv2 (f := false) (x := eL eD _) (w := 5050) ?_ (by decide)) .nil)))
      · rw [tD]
        show GvS SS (.tuple (.str "ring" :: odd :: (some4.drop (Int.toNat 1)).map eInt))
        exact .tup (Sgs.cons s_ring (Sgs.cons hfo7 (sl c3))) (by decide) fun s r e => by cases e; exact ss_ring
      · rw [tD]
        show GvS SS (.tuple (odd :: some4.map eInt))
        exact .tup (Sgs.cons hfo7 (sl hsome)) (by decide) fun s r e => hodd.str s (List.cons.inj e).1
      · rw [show ∀ l : List PyData, eL eD l = .list l from fun l => by simp [eL, map_eD]]
        exact (Sg.lst hos.sgs).mono (by decide) (Nat.le_refl _)
    rw [sm100 (Nat.le_trans a4.1 (by decide)), bp]
    refine Sat.bind2 (AllS.cat b3 a4) fun l4 b4 => ?_
    have c5 : RowB 10 (srt eInt some4) := rowb_sub hsome (by rw [srt_ints, List.length_mergeSort]; exact Nat.le_refl _) fun y hy => by rw [srt_ints] at hy; exact (List.mergeSort_perm _ _).mem_iff.mp hy
    rw [catO_ok (by have := c5.1; simp [sizeLine]; omega), optM_some, bp]
    have a5 : AllS SS 3 [eP (eC eStr (eC (eT eD) eU)) ("pairs", cutL (os.map (eO eInt)) (some 1) none, ()), eT eD ([eStr "ring"] ++ (srt eInt some4).map eInt), eP (eC eStr (eC eInt (eC eInt (eC eInt (eC eInt eU))))) ("ring", 0, 2, 1, 2, ())] := by
      refine .cons (gv2 (f := false) (x := eT eD _) (w := 5050) ?_ (by decide)) (.cons ?_ (.cons (gring (f := false) (l := [0, 2, 1, 2]) ⟨by simp, by simp⟩) .nil))
      · rw [Pz.cut_from _ (by decide), ← List.map_drop, show ∀ l : List PyData, eT eD l = .tuple l from fun l => by simp [eT, map_eD]]
        exact (Sg.tup (OsOk.sgs (hos.sub (by rw [List.length_drop]; omega) fun o ho => List.mem_of_mem_drop ho))).mono (by decide) (Nat.le_refl _)
      · rw [tD]
        exact gring (f := false) c5
    rw [sm100 (Nat.le_trans a5.1 (by decide)), bp]
    refine Sat.bind2 (AllS.cat b4 a5) fun l5 b5 => ?_
    refine Sat.bind2 (Sat.forO (I := fun _ => True) trivial fun b v hv _ => ?_) fun o ho => ?_
    · have g := b5.2 v hv
      obtain ⟨zf, hzf⟩ := fault_rep hl v
      rw [g.rep, optM_some, bp, p_lfault hl g.pl (Nat.le_trans g.dp (by decide)), bp, p_judge hl, bp]
      simp only [hzf, g.rep, optM_some, bp, decide_true, Bool.not_true, Bool.false_eq_true, if_false]
      cases hn : Pz.isNon (faultR ls m v) with
      | false => simp only [Bool.false_eq_true, if_false, bp]; exact .pure ⟨(), rfl, trivial⟩
      | true =>
        have e0 : faultR ls m v = .none := by cases q : faultR ls m v <;> rw [q] at hn <;> first | rfl | cases hn
        obtain ⟨t, r, r2, rfl, e2⟩ := fault_head hl e0
        rw [P.eq] at e2
        have e3 : h = t := by
          have := (PyData.tuple.inj e2)
          exact PyData.str.inj (List.cons.inj this).1
        simp only [if_true, asTup_t, optM_some, bp, at0]
        rw [e3, show eqZ (PyData.str t) (PyData.str t) = some (decide (t = t)) from eqZ_str t t]
        simp only [decide_true, Option.map_some, Bool.not_true, optM_some, bp, Bool.false_eq_true, if_false]
        exact .pure ⟨(), rfl, trivial⟩
    · obtain ⟨b, rfl, _⟩ := ho
      unfold caseO
      exact .pure ⟨(), rfl, trivial⟩
  · obtain ⟨b, rfl, _⟩ := ho
    unfold caseO
    exact .pure rfl
end Lw

namespace Lw
open PySem PySem.Spec PyProof.Rows L2 Pz
theorem all_mk {l : PySem.W.OpenLaw} {w : World} {K : PySem.W.Frag} {h : Heap} {mg : Str → Option Value} {fa f1 f2 f3 f4 f5 f6 f7 f8 f9 f10 f11 f12 f13 f14 f15 f16 f17 f18 f19 : Addr} (X : K.In h) (G : h.Ns mainGlobals mg) (hfa : mg "law" = some (.ref fa))
    {od1 an1 od2 an2 od3 an3 od4 an4 od5 an5 od6 an6 od7 an7 od8 an8 od9 an9 od10 an10 od11 an11 od12 an12 od13 an13 od14 an14 od15 an15 od16 an16 od17 an17 od18 an18 od19 an19 : Option Addr} {sl1 sl2 sl3 sl4 sl5 sl6 sl7 sl8 sl9 sl10 sl11 sl12 sl13 sl14 sl15 sl16 sl17 sl18 sl19 : Array (Option Value)} {oc1 kV1 dc1 pm1 cd1 ct1 oc2 kV2 dc2 pm2 cd2 ct2 oc3 kV3 dc3 pm3 cd3 ct3 oc4 kV4 dc4 pm4 cd4 ct4 oc5 kV5 dc5 pm5 cd5 ct5 oc6 kV6 dc6 pm6 cd6 ct6 oc7 kV7 dc7 pm7 cd7 ct7 oc8 kV8 dc8 pm8 cd8 ct8 oc9 kV9 dc9 pm9 cd9 ct9 oc10 kV10 dc10 pm10 cd10 ct10 oc11 kV11 dc11 pm11 cd11 ct11 oc12 kV12 dc12 pm12 cd12 ct12 oc13 kV13 dc13 pm13 cd13 ct13 oc14 kV14 dc14 pm14 cd14 ct14 oc15 kV15 dc15 pm15 cd15 ct15 oc16 kV16 dc16 pm16 cd16 ct16 oc17 kV17 dc17 pm17 cd17 ct17 oc18 kV18 dc18 pm18 cd18 ct18 oc19 kV19 dc19 pm19 cd19 ct19 : Value}
    (a1 : PySem.W.nsIn K mainGlobals "_law_open_cells" = some (some (.ref f1))) (l1 : K.lookup f1 = some ⟨oc1, od1, .func (PySem.W.fnOf "_law_open_cells" "_law_open_cells" (defArgs sSource) (defBody sSource) (defScope sSource) .none kV1 dc1 pm1 an1 cd1 ct1), sl1⟩) (c1 : PySem.W.codeIn K cd1 "_law_open_cells" = true) (k1 : PySem.W.keepIn K (.ref f1) = true)
    (a2 : PySem.W.nsIn K mainGlobals "_law_pick" = some (some (.ref f2))) (l2 : K.lookup f2 = some ⟨oc2, od2, .func (PySem.W.fnOf "_law_pick" "_law_pick" (defArgs sPick) (defBody sPick) (defScope sPick) .none kV2 dc2 pm2 an2 cd2 ct2), sl2⟩) (c2 : PySem.W.codeIn K cd2 "_law_pick" = true) (k2 : PySem.W.keepIn K (.ref f2) = true)
    (a3 : PySem.W.nsIn K mainGlobals "is_web_number" = some (some (.ref f3))) (l3 : K.lookup f3 = some ⟨oc3, od3, .func (PySem.W.fnOf "is_web_number" "is_web_number" (defArgs s_is_web_number) (defBody s_is_web_number) (defScope s_is_web_number) .none kV3 dc3 pm3 an3 cd3 ct3), sl3⟩) (c3 : PySem.W.codeIn K cd3 "is_web_number" = true) (k3 : PySem.W.keepIn K (.ref f3) = true)
    (a4 : PySem.W.nsIn K mainGlobals "shared_points" = some (some (.ref f4))) (l4 : K.lookup f4 = some ⟨oc4, od4, .func (PySem.W.fnOf "shared_points" "shared_points" (defArgs s_shared_points) (defBody s_shared_points) (defScope s_shared_points) .none kV4 dc4 pm4 an4 cd4 ct4), sl4⟩) (c4 : PySem.W.codeIn K cd4 "shared_points" = true) (k4 : PySem.W.keepIn K (.ref f4) = true)
    (a5 : PySem.W.nsIn K mainGlobals "some_lots" = some (some (.ref f5))) (l5 : K.lookup f5 = some ⟨oc5, od5, .func (PySem.W.fnOf "some_lots" "some_lots" (defArgs s_some_lots) (defBody s_some_lots) (defScope s_some_lots) .none kV5 dc5 pm5 an5 cd5 ct5), sl5⟩) (c5 : PySem.W.codeIn K cd5 "some_lots" = true) (k5 : PySem.W.keepIn K (.ref f5) = true)
    (a6 : PySem.W.nsIn K mainGlobals "lines_through" = some (some (.ref f6))) (l6 : K.lookup f6 = some ⟨oc6, od6, .func (PySem.W.fnOf "lines_through" "lines_through" (defArgs s_lines_through) (defBody s_lines_through) (defScope s_lines_through) .none kV6 dc6 pm6 an6 cd6 ct6), sl6⟩) (c6 : PySem.W.codeIn K cd6 "lines_through" = true) (k6 : PySem.W.keepIn K (.ref f6) = true)
    (a7 : PySem.W.nsIn K mainGlobals "first_ring" = some (some (.ref f7))) (l7 : K.lookup f7 = some ⟨oc7, od7, .func (PySem.W.fnOf "first_ring" "first_ring" (defArgs s_first_ring) (defBody s_first_ring) (defScope s_first_ring) .none kV7 dc7 pm7 an7 cd7 ct7), sl7⟩) (c7 : PySem.W.codeIn K cd7 "first_ring" = true) (k7 : PySem.W.keepIn K (.ref f7) = true)
    (a8 : PySem.W.nsIn K mainGlobals "ring_paper" = some (some (.ref f8))) (l8 : K.lookup f8 = some ⟨oc8, od8, .func (PySem.W.fnOf "ring_paper" "ring_paper" (defArgs s_ring_paper) (defBody s_ring_paper) (defScope s_ring_paper) .none kV8 dc8 pm8 an8 cd8 ct8), sl8⟩) (c8 : PySem.W.codeIn K cd8 "ring_paper" = true) (k8 : PySem.W.keepIn K (.ref f8) = true)
    (a9 : PySem.W.nsIn K mainGlobals "is_ring_form" = some (some (.ref f9))) (l9 : K.lookup f9 = some ⟨oc9, od9, .func (PySem.W.fnOf "is_ring_form" "is_ring_form" (defArgs s_is_ring_form) (defBody s_is_ring_form) (defScope s_is_ring_form) .none kV9 dc9 pm9 an9 cd9 ct9), sl9⟩) (c9 : PySem.W.codeIn K cd9 "is_ring_form" = true) (k9 : PySem.W.keepIn K (.ref f9) = true)
    (a10 : PySem.W.nsIn K mainGlobals "ring_fault" = some (some (.ref f10))) (l10 : K.lookup f10 = some ⟨oc10, od10, .func (PySem.W.fnOf "ring_fault" "ring_fault" (defArgs s_ring_fault) (defBody s_ring_fault) (defScope s_ring_fault) .none kV10 dc10 pm10 an10 cd10 ct10), sl10⟩) (c10 : PySem.W.codeIn K cd10 "ring_fault" = true) (k10 : PySem.W.keepIn K (.ref f10) = true)
    (a11 : PySem.W.nsIn K mainGlobals "pairs_fault" = some (some (.ref f11))) (l11 : K.lookup f11 = some ⟨oc11, od11, .func (PySem.W.fnOf "pairs_fault" "pairs_fault" (defArgs s_pairs_fault) (defBody s_pairs_fault) (defScope s_pairs_fault) .none kV11 dc11 pm11 an11 cd11 ct11), sl11⟩) (c11 : PySem.W.codeIn K cd11 "pairs_fault" = true) (k11 : PySem.W.keepIn K (.ref f11) = true)
    (a12 : PySem.W.nsIn K mainGlobals "judge_ring" = some (some (.ref f12))) (l12 : K.lookup f12 = some ⟨oc12, od12, .func (PySem.W.fnOf "judge_ring" "judge_ring" (defArgs s_judge_ring) (defBody s_judge_ring) (defScope s_judge_ring) .none kV12 dc12 pm12 an12 cd12 ct12), sl12⟩) (c12 : PySem.W.codeIn K cd12 "judge_ring" = true) (k12 : PySem.W.keepIn K (.ref f12) = true)
    (a13 : PySem.W.nsIn K mainGlobals "_law_some" = some (some (.ref f13))) (l13 : K.lookup f13 = some ⟨oc13, od13, .func (PySem.W.fnOf "_law_some" "_law_some" (defArgs s__law_some) (defBody s__law_some) (defScope s__law_some) .none kV13 dc13 pm13 an13 cd13 ct13), sl13⟩) (c13 : PySem.W.codeIn K cd13 "_law_some" = true) (k13 : PySem.W.keepIn K (.ref f13) = true)
    (a14 : PySem.W.nsIn K mainGlobals "_law_both" = some (some (.ref f14))) (l14 : K.lookup f14 = some ⟨oc14, od14, .func (PySem.W.fnOf "_law_both" "_law_both" (defArgs s__law_both) (defBody s__law_both) (defScope s__law_both) .none kV14 dc14 pm14 an14 cd14 ct14), sl14⟩) (c14 : PySem.W.codeIn K cd14 "_law_both" = true) (k14 : PySem.W.keepIn K (.ref f14) = true)
    (a15 : PySem.W.nsIn K mainGlobals "_law_is_open" = some (some (.ref f15))) (l15 : K.lookup f15 = some ⟨oc15, od15, .func (PySem.W.fnOf "_law_is_open" "_law_is_open" (defArgs s__law_is_open) (defBody s__law_is_open) (defScope s__law_is_open) .none kV15 dc15 pm15 an15 cd15 ct15), sl15⟩) (c15 : PySem.W.codeIn K cd15 "_law_is_open" = true) (k15 : PySem.W.keepIn K (.ref f15) = true)
    (a16 : PySem.W.nsIn K mainGlobals "_law_draw" = some (some (.ref f16))) (l16 : K.lookup f16 = some ⟨oc16, od16, .func (PySem.W.fnOf "_law_draw" "_law_draw" (defArgs s__law_draw) (defBody s__law_draw) (defScope s__law_draw) .none kV16 dc16 pm16 an16 cd16 ct16), sl16⟩) (c16 : PySem.W.codeIn K cd16 "_law_draw" = true) (k16 : PySem.W.keepIn K (.ref f16) = true)
    (a17 : PySem.W.nsIn K mainGlobals "_law_is_count" = some (some (.ref f17))) (l17 : K.lookup f17 = some ⟨oc17, od17, .func (PySem.W.fnOf "_law_is_count" "_law_is_count" (defArgs s__law_is_count) (defBody s__law_is_count) (defScope s__law_is_count) .none kV17 dc17 pm17 an17 cd17 ct17), sl17⟩) (c17 : PySem.W.codeIn K cd17 "_law_is_count" = true) (k17 : PySem.W.keepIn K (.ref f17) = true)
    (a18 : PySem.W.nsIn K mainGlobals "_law_fault" = some (some (.ref f18))) (l18 : K.lookup f18 = some ⟨oc18, od18, .func (PySem.W.fnOf "_law_fault" "_law_fault" (defArgs s__law_fault) (defBody s__law_fault) (defScope s__law_fault) .none kV18 dc18 pm18 an18 cd18 ct18), sl18⟩) (c18 : PySem.W.codeIn K cd18 "_law_fault" = true) (k18 : PySem.W.keepIn K (.ref f18) = true)
    (a19 : PySem.W.nsIn K mainGlobals "law" = some (some (.ref f19))) (l19 : K.lookup f19 = some ⟨oc19, od19, .func (PySem.W.fnOf "law" "law" (defArgs s_law) (defBody s_law) (defScope s_law) .none kV19 dc19 pm19 an19 cd19 ct19), sl19⟩) (c19 : PySem.W.codeIn K cd19 "law" = true) (k19 : PySem.W.keepIn K (.ref f19) = true)
    (z_len : PySem.W.nsIn K mainGlobals "len" = some none) (z_int : PySem.W.nsIn K mainGlobals "int" = some none) (z_abs : PySem.W.nsIn K mainGlobals "abs" = some none) (z_range : PySem.W.nsIn K mainGlobals "range" = some none) (z_sorted : PySem.W.nsIn K mainGlobals "sorted" = some none) (z_sum : PySem.W.nsIn K mainGlobals "sum" = some none) (z_all : PySem.W.nsIn K mainGlobals "all" = some none) (z_any : PySem.W.nsIn K mainGlobals "any" = some none) (z_tuple : PySem.W.nsIn K mainGlobals "tuple" = some none) (z_list : PySem.W.nsIn K mainGlobals "list" = some none) (z_max : PySem.W.nsIn K mainGlobals "max" = some none) (z_min : PySem.W.nsIn K mainGlobals "min" = some none) (z_repr : PySem.W.nsIn K mainGlobals "repr" = some none) (z_enumerate : PySem.W.nsIn K mainGlobals "enumerate" = some none) (z_zip : PySem.W.nsIn K mainGlobals "zip" = some none) (z_isinstance : PySem.W.nsIn K mainGlobals "isinstance" = some none) (z_bool : PySem.W.nsIn K mainGlobals "bool" = some none) (z_str : PySem.W.nsIn K mainGlobals "str" = some none) (z_dict : PySem.W.nsIn K mainGlobals "dict" = some none) :
    ∃ fd : FuncData, (∀ (s : Shared) (v : Value), BindsTo s fd ⟨[v], []⟩ [("script", v)]) ∧ ∀ base : Heap, K.In base → base.Ns mainGlobals mg → FnG l.prog w K mg base 4 fa fd ["script"] (SpLaw K) := by
  have e := hfa.symm.trans (PySem.W.mg_of X G a19)
  cases e
  have B : Bl mg := ⟨PySem.W.mg_none_of X G z_len, PySem.W.mg_none_of X G z_int, PySem.W.mg_none_of X G z_abs, PySem.W.mg_none_of X G z_range, PySem.W.mg_none_of X G z_sorted, PySem.W.mg_none_of X G z_sum, PySem.W.mg_none_of X G z_all, PySem.W.mg_none_of X G z_any, PySem.W.mg_none_of X G z_tuple, PySem.W.mg_none_of X G z_list, PySem.W.mg_none_of X G z_max, PySem.W.mg_none_of X G z_min, PySem.W.mg_none_of X G z_repr, PySem.W.mg_none_of X G z_enumerate, PySem.W.mg_none_of X G z_zip, PySem.W.mg_none_of X G z_isinstance, PySem.W.mg_none_of X G z_bool, PySem.W.mg_none_of X G z_str, PySem.W.mg_none_of X G z_dict⟩
  have F1 := fun_mk (st := sSource) l1 c1 k1
  have b1 := F1.binds (ps := ["script"]) fun _ _ _ _ _ _ us hl => match us, hl with | [_], _ => rfl
  have C1 : Cal K mg "_law_open_cells" f1 _ ["script"] := ⟨PySem.W.mg_of X G a1, k1, b1⟩
  have F2 := fun_mk (st := sPick) l2 c2 k2
  have b2 := F2.binds (ps := ["source", "most"]) fun _ _ _ _ _ _ us hl => match us, hl with | [_, _], _ => rfl
  have C2 : Cal K mg "_law_pick" f2 _ ["source", "most"] := ⟨PySem.W.mg_of X G a2, k2, b2⟩
  have F3 := fun_mk (st := s_is_web_number) l3 c3 k3
  have b3 := F3.binds (ps := ["value"]) fun _ _ _ _ _ _ us hl => match us, hl with | [_], _ => rfl
  have C3 : Cal K mg "is_web_number" f3 _ ["value"] := ⟨PySem.W.mg_of X G a3, k3, b3⟩
  have F4 := fun_mk (st := s_shared_points) l4 c4 k4
  have b4 := F4.binds (ps := ["lines", "r", "s"]) fun _ _ _ _ _ _ us hl => match us, hl with | [_, _, _], _ => rfl
  have C4 : Cal K mg "shared_points" f4 _ ["lines", "r", "s"] := ⟨PySem.W.mg_of X G a4, k4, b4⟩
  have F5 := fun_mk (st := s_some_lots) l5 c5 k5
  have b5 := F5.binds (ps := ["m", "s"]) fun _ _ _ _ _ _ us hl => match us, hl with | [_, _], _ => rfl
  have C5 : Cal K mg "some_lots" f5 _ ["m", "s"] := ⟨PySem.W.mg_of X G a5, k5, b5⟩
  have F6 := fun_mk (st := s_lines_through) l6 c6 k6
  have b6 := F6.binds (ps := ["lines", "lot"]) fun _ _ _ _ _ _ us hl => match us, hl with | [_, _], _ => rfl
  have C6 : Cal K mg "lines_through" f6 _ ["lines", "lot"] := ⟨PySem.W.mg_of X G a6, k6, b6⟩
  have F7 := fun_mk (st := s_first_ring) l7 c7 k7
  have b7 := F7.binds (ps := ["lines"]) fun _ _ _ _ _ _ us hl => match us, hl with | [_], _ => rfl
  have C7 : Cal K mg "first_ring" f7 _ ["lines"] := ⟨PySem.W.mg_of X G a7, k7, b7⟩
  have F8 := fun_mk (st := s_ring_paper) l8 c8 k8
  have b8 := F8.binds (ps := ["lines", "m"]) fun _ _ _ _ _ _ us hl => match us, hl with | [_, _], _ => rfl
  have C8 : Cal K mg "ring_paper" f8 _ ["lines", "m"] := ⟨PySem.W.mg_of X G a8, k8, b8⟩
  have F9 := fun_mk (st := s_is_ring_form) l9 c9 k9
  have b9 := F9.binds (ps := ["n", "m", "value"]) fun _ _ _ _ _ _ us hl => match us, hl with | [_, _, _], _ => rfl
  have C9 : Cal K mg "is_ring_form" f9 _ ["n", "m", "value"] := ⟨PySem.W.mg_of X G a9, k9, b9⟩
  have F10 := fun_mk (st := s_ring_fault) l10 c10 k10
  have b10 := F10.binds (ps := ["lines", "r", "s", "c", "d"]) fun _ _ _ _ _ _ us hl => match us, hl with | [_, _, _, _, _], _ => rfl
  have C10 : Cal K mg "ring_fault" f10 _ ["lines", "r", "s", "c", "d"] := ⟨PySem.W.mg_of X G a10, k10, b10⟩
  have F11 := fun_mk (st := s_pairs_fault) l11 c11 k11
  have b11 := F11.binds (ps := ["lines", "m", "rows"]) fun _ _ _ _ _ _ us hl => match us, hl with | [_, _, _], _ => rfl
  have C11 : Cal K mg "pairs_fault" f11 _ ["lines", "m", "rows"] := ⟨PySem.W.mg_of X G a11, k11, b11⟩
  have F12 := fun_mk (st := s_judge_ring) l12 c12 k12
  have b12 := F12.binds (ps := ["lines", "m", "value"]) fun _ _ _ _ _ _ us hl => match us, hl with | [_, _, _], _ => rfl
  have C12 : Cal K mg "judge_ring" f12 _ ["lines", "m", "value"] := ⟨PySem.W.mg_of X G a12, k12, b12⟩
  have F13 := fun_mk (st := s__law_some) l13 c13 k13
  have b13 := F13.binds (ps := ["m", "s"]) fun _ _ _ _ _ _ us hl => match us, hl with | [_, _], _ => rfl
  have C13 : Cal K mg "_law_some" f13 _ ["m", "s"] := ⟨PySem.W.mg_of X G a13, k13, b13⟩
  have F14 := fun_mk (st := s__law_both) l14 c14 k14
  have b14 := F14.binds (ps := ["one", "other"]) fun _ _ _ _ _ _ us hl => match us, hl with | [_, _], _ => rfl
  have C14 : Cal K mg "_law_both" f14 _ ["one", "other"] := ⟨PySem.W.mg_of X G a14, k14, b14⟩
  have F15 := fun_mk (st := s__law_is_open) l15 c15 k15
  have b15 := F15.binds (ps := ["lines"]) fun _ _ _ _ _ _ us hl => match us, hl with | [_], _ => rfl
  have C15 : Cal K mg "_law_is_open" f15 _ ["lines"] := ⟨PySem.W.mg_of X G a15, k15, b15⟩
  have F16 := fun_mk (st := s__law_draw) l16 c16 k16
  have b16 := F16.binds (ps := ["source", "m", "many"]) fun _ _ _ _ _ _ us hl => match us, hl with | [_, _, _], _ => rfl
  have C16 : Cal K mg "_law_draw" f16 _ ["source", "m", "many"] := ⟨PySem.W.mg_of X G a16, k16, b16⟩
  have F17 := fun_mk (st := s__law_is_count) l17 c17 k17
  have b17 := F17.binds (ps := ["value"]) fun _ _ _ _ _ _ us hl => match us, hl with | [_], _ => rfl
  have C17 : Cal K mg "_law_is_count" f17 _ ["value"] := ⟨PySem.W.mg_of X G a17, k17, b17⟩
  have F18 := fun_mk (st := s__law_fault) l18 c18 k18
  have b18 := F18.binds (ps := ["lines", "m", "value"]) fun _ _ _ _ _ _ us hl => match us, hl with | [_, _, _], _ => rfl
  have C18 : Cal K mg "_law_fault" f18 _ ["lines", "m", "value"] := ⟨PySem.W.mg_of X G a18, k18, b18⟩
  have F19 := fun_mk (st := s_law) l19 c19 k19
  have b19 := F19.binds (ps := ["script"]) fun _ _ _ _ _ _ us hl => match us, hl with | [_], _ => rfl
  refine ⟨PySem.W.fnOf "law" "law" (defArgs s_law) (defBody s_law) (defScope s_law) .none kV19 dc19 pm19 an19 cd19 ct19, fun s v => .of_eq rfl, fun base _ _ => ?_⟩
  have G1 := ok_source (P := l.prog) (w := w) (base := base) F1 B.b_abs B.b_int
  have G2 := ok_pick (P := l.prog) (w := w) (base := base) F2 B.b_len B.b_int
  have G3 := ok_is_web_number (P := l.prog) (w := w) (base := base) F3 B
  have G4 := ok_shared_points (P := l.prog) (w := w) (base := base) F4 B
  have G5 := ok_some_lots (P := l.prog) (w := w) (base := base) F5 B
  have G6 := ok_lines_through (P := l.prog) (w := w) (base := base) F6 B
  have G7 := ok_first_ring (P := l.prog) (w := w) (base := base) F7 B C4 G4
  have G8 := ok_ring_paper (P := l.prog) (w := w) (base := base) F8 B C7 G7 C5 G5 C6 G6
  have G9 := ok_is_ring_form (P := l.prog) (w := w) (base := base) F9 B C3 G3
  have G10 := ok_ring_fault (P := l.prog) (w := w) (base := base) F10 B
  have G11 := ok_pairs_fault (P := l.prog) (w := w) (base := base) F11 B C5 G5 C6 G6
  have G12 := ok_judge_ring (P := l.prog) (w := w) (base := base) F12 B C9 G9 C10 G10 C11 G11
  have G13 := ok__law_some (P := l.prog) (w := w) (base := base) F13 B
  have G14 := ok__law_both (P := l.prog) (w := w) (base := base) F14 B
  have G15 := ok__law_is_open (P := l.prog) (w := w) (base := base) F15 B C14 G14
  have G__law_is_open_L := ok__law_is_open_L (P := l.prog) (w := w) (base := base) F15 B C14 G14
  have G16 := ok__law_draw (P := l.prog) (w := w) (base := base) F16 B C2 G2 C15 G__law_is_open_L
  have G17 := ok__law_is_count (P := l.prog) (w := w) (base := base) F17 B
  have G18 := ok__law_fault (P := l.prog) (w := w) (base := base) F18 B C13 G13 C17 G17 C14 G14
  exact ok_law (P := l.prog) (w := w) (base := base) F19 B C1 G1 C2 G2 C16 G16 C8 G8 C13 G13 C15 G15 C18 G18 C12 G12 p_law
end Lw
open PySem PySem.W PyProof.Rows
set_option maxHeartbeats 0 in
theorem PySem.Challenge.cw_lotsoflots_k75_ring_papers_holds : PySem.Challenge.rw_lotsoflots_k75_ring_papers.Holds := by
  w_on; o_law; k_head; (case hw => w_witness2)
  k_fill
  refine Pz.law_walk (l := PySem.Challenge.rw_lotsoflots_k75_ring_papers) (k := 4) (x := "script") rfl (by rfl) ⟨rfl, by decide, by decide⟩ (fun w h Y => PySem.W.kIn_of Y) ?F
  case F =>
    intro w mg fa h KX G hmg
    refine' Lw.all_mk KX G hmg ?a1 ?l1 ?c1 ?k1 ?a2 ?l2 ?c2 ?k2 ?a3 ?l3 ?c3 ?k3 ?a4 ?l4 ?c4 ?k4 ?a5 ?l5 ?c5 ?k5 ?a6 ?l6 ?c6 ?k6 ?a7 ?l7 ?c7 ?k7 ?a8 ?l8 ?c8 ?k8 ?a9 ?l9 ?c9 ?k9 ?a10 ?l10 ?c10 ?k10 ?a11 ?l11 ?c11 ?k11 ?a12 ?l12 ?c12 ?k12 ?a13 ?l13 ?c13 ?k13 ?a14 ?l14 ?c14 ?k14 ?a15 ?l15 ?c15 ?k15 ?a16 ?l16 ?c16 ?k16 ?a17 ?l17 ?c17 ?k17 ?a18 ?l18 ?c18 ?k18 ?a19 ?l19 ?c19 ?k19 ?z_len ?z_int ?z_abs ?z_range ?z_sorted ?z_sum ?z_all ?z_any ?z_tuple ?z_list ?z_max ?z_min ?z_repr ?z_enumerate ?z_zip ?z_isinstance ?z_bool ?z_str ?z_dict
    (case a1 => k_is); (case l1 => k_is); (case c1 => k_is); (case k1 => k_is); (case a2 => k_is); (case l2 => k_is); (case c2 => k_is); (case k2 => k_is); (case a3 => k_is); (case l3 => k_is); (case c3 => k_is); (case k3 => k_is); (case a4 => k_is); (case l4 => k_is); (case c4 => k_is); (case k4 => k_is); (case a5 => k_is); (case l5 => k_is); (case c5 => k_is); (case k5 => k_is); (case a6 => k_is); (case l6 => k_is); (case c6 => k_is); (case k6 => k_is); (case a7 => k_is); (case l7 => k_is); (case c7 => k_is); (case k7 => k_is); (case a8 => k_is); (case l8 => k_is); (case c8 => k_is); (case k8 => k_is); (case a9 => k_is); (case l9 => k_is); (case c9 => k_is); (case k9 => k_is); (case a10 => k_is); (case l10 => k_is); (case c10 => k_is); (case k10 => k_is); (case a11 => k_is); (case l11 => k_is); (case c11 => k_is); (case k11 => k_is); (case a12 => k_is); (case l12 => k_is); (case c12 => k_is); (case k12 => k_is); (case a13 => k_is); (case l13 => k_is); (case c13 => k_is); (case k13 => k_is); (case a14 => k_is); (case l14 => k_is); (case c14 => k_is); (case k14 => k_is); (case a15 => k_is); (case l15 => k_is); (case c15 => k_is); (case k15 => k_is); (case a16 => k_is); (case l16 => k_is); (case c16 => k_is); (case k16 => k_is); (case a17 => k_is); (case l17 => k_is); (case c17 => k_is); (case k17 => k_is); (case a18 => k_is); (case l18 => k_is); (case c18 => k_is); (case k18 => k_is); (case a19 => k_is); (case l19 => k_is); (case c19 => k_is); (case k19 => k_is); (case z_len => k_is); (case z_int => k_is); (case z_abs => k_is); (case z_range => k_is); (case z_sorted => k_is); (case z_sum => k_is); (case z_all => k_is); (case z_any => k_is); (case z_tuple => k_is); (case z_list => k_is); (case z_max => k_is); (case z_min => k_is); (case z_repr => k_is); (case z_enumerate => k_is); (case z_zip => k_is); (case z_isinstance => k_is); (case z_bool => k_is); (case z_str => k_is); (case z_dict => k_is)

