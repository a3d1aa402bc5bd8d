import PyProof.Rows.All
import HandS.ForMost
import HandS.TupAny
import HandS.TupMul
import HandS.Deep
import HandS.Style
import HandS.Star
import HandS.Wide
import HandS.IsInst
import HandS.Flow
import HandS.Zip
import HandS.Conv
import HandS.Rev
import KE.SortData
import KE.DataMinMax
import KE.DataFind
import PyProof.ReprRoads
import KE.GoesEnum
import KE.KRevSl
import PyProof.NeKinds
import PySem.Challenge.RW_lotsoflots_k80_whole_color_papers
set_option Elab.async false
set_option linter.all false
set_option maxRecDepth 100000
set_option maxHeartbeats 4000000
/-! Pz: pure values over the hand layer: what an expression evaluates to, as a Lean function. -/
namespace Pz
open PySem PySem.Spec PyProof.Rows L2

/-! ### the monad -/
structure Src where
  cells : List Int
  left : Int
  mixed : Int
  turn : Int
abbrev M (α : Type) := Src → Option (α × Src)
def pureM {α : Type} (a : α) : M α := fun s => some (a, s)
def bindM {α β : Type} (m : M α) (f : α → M β) : M β := fun s => match m s with
  | some (a, s') => f a s'
  | none => none
def failM {α : Type} : M α := fun _ => none
def optM {α : Type} (o : Option α) : M α := fun s => match o with
  | some a => some (a, s)
  | none => none
@[simp] theorem bind_pure {α β : Type} (a : α) (f : α → M β) : bindM (pureM a) f = f a := rfl
@[simp] theorem bind_ret {α : Type} (m : M α) : bindM m (fun a => pureM a) = m := by
  funext s; unfold bindM; cases h : m s with
  | none => rfl
  | some p => rfl
@[simp] theorem bind_ret' {α : Type} (m : M α) : bindM m pureM = m := bind_ret m
@[simp] theorem bind_assoc {α β γ : Type} (m : M α) (f : α → M β) (g : β → M γ) : bindM (bindM m f) g = bindM m fun a => bindM (f a) g := by
  funext s; unfold bindM; cases h : m s with
  | none => rfl
  | some p => rfl
@[simp] theorem optM_some {α : Type} (a : α) : optM (some a) = pureM a := rfl
@[simp] theorem optM_none {α : Type} : optM (none : Option α) = failM := rfl
@[simp] theorem bind_fail {α β : Type} (f : α → M β) : bindM failM f = failM := rfl
theorem bind_some {α β : Type} {m : M α} {f : α → M β} {s t : Src} {b : β} (h : bindM m f s = some (b, t)) : ∃ a u, m s = some (a, u) ∧ f a u = some (b, t) := by
  unfold bindM at h
  cases e : m s with
  | none => rw [e] at h; cases h
  | some p => rw [e] at h; exact ⟨p.1, p.2, rfl, h⟩
theorem pure_some {α : Type} {a b : α} {s t : Src} (h : pureM a s = some (b, t)) : a = b ∧ s = t := by cases h; exact ⟨rfl, rfl⟩
theorem optM_inv {α : Type} {o : Option α} {b : α} {s t : Src} (h : optM o s = some (b, t)) : o = some b ∧ s = t := by
  cases o with
  | none => cases h
  | some a => cases h; exact ⟨rfl, rfl⟩
def mapM' {α β : Type} (f : α → M β) : List α → M (List β)
  | [] => pureM []
  | x :: xs => bindM (f x) fun y => bindM (mapM' f xs) fun ys => pureM (y :: ys)
def filterMapM' {α β : Type} (f : α → M (Option β)) : List α → M (List β)
  | [] => pureM []
  | x :: xs => bindM (f x) fun y => bindM (filterMapM' f xs) fun ys => pureM (match y with | some z => z :: ys | none => ys)
def forM' {β ι : Type} (f : β → ι → M β) : List ι → β → M β
  | [], b => pureM b
  | x :: xs, b => bindM (f b x) fun b' => forM' f xs b'
/-- the end of a block: it goes on, or it returns -/
inductive Out (ρ β : Type) where
  | nx (b : β) | rt (r : ρ)
def forO {ρ β ι : Type} (f : β → ι → M (Out ρ β)) : List ι → β → M (Out ρ β)
  | [], b => pureM (.nx b)
  | x :: xs, b => bindM (f b x) fun o => match o with
    | .nx b' => forO f xs b'
    | .rt r => pureM (.rt r)
def whileM {β : Type} (c : β → M Bool) (f : β → M β) : Nat → β → M β
  | 0, _ => failM
  | n + 1, b => bindM (c b) fun k => if k then bindM (f b) fun b' => whileM c f n b' else pureM b

/-! ### values of data in the abstract heap, apart from what is owned -/
abbrev Av := Addr → Prop
mutual
inductive Rp (A : Av) (H : Hp) : V → PyData → Prop
  | non : Rp A H .non .none
  | bl (b : Bool) : Rp A H (.bl b) (.bool b)
  | int (i : Int) : Rp A H (.int i) (.int i)
  | str (x : Str) : Rp A H (.str x) (.str x)
  | lst {a : Addr} {xs : List V} {ds : List PyData} : ¬ A a → H a = some (.lst xs) → RpAll A H xs ds → Rp A H (.ref a) (.list ds)
  | tup {a : Addr} {xs : List V} {ds : List PyData} : ¬ A a → H a = some (.tup xs) → RpAll A H xs ds → Rp A H (.ref a) (.tuple ds)
  | dic {a : Addr} : ¬ A a → H a = some (.dK []) → Rp A H (.ref a) (.dict [])
inductive RpAll (A : Av) (H : Hp) : List V → List PyData → Prop
  | nil : RpAll A H [] []
  | cons {v : V} {vs : List V} {d : PyData} {ds : List PyData} : Rp A H v d → RpAll A H vs ds → RpAll A H (v :: vs) (d :: ds)
end
section
variable {A A' : Av} {H H' : Hp}
mutual
theorem Rp.move (h : ∀ a o, ¬ A a → H a = some o → ¬ A' a ∧ H' a = some o) : ∀ (d : PyData) (v : V), Rp A H v d → Rp A' H' v d
  | .none, _, r => by cases r; exact .non
  | .bool b, _, r => by cases r; exact .bl b
  | .int i, _, r => by cases r; exact .int i
  | .str x, _, r => by cases r; exact .str x
  | .list ds, _, r => by
    cases r with
    | lst h1 h2 h3 => obtain ⟨a1, a2⟩ := h _ _ h1 h2; exact .lst a1 a2 (RpAll.move h ds _ h3)
  | .tuple ds, _, r => by
    cases r with
    | tup h1 h2 h3 => obtain ⟨a1, a2⟩ := h _ _ h1 h2; exact .tup a1 a2 (RpAll.move h ds _ h3)
  | .dict _, _, r => by
    cases r with
    | dic h1 h2 => obtain ⟨a1, a2⟩ := h _ _ h1 h2; exact .dic a1 a2
theorem RpAll.move (h : ∀ a o, ¬ A a → H a = some o → ¬ A' a ∧ H' a = some o) : ∀ (ds : List PyData) (vs : List V), RpAll A H vs ds → RpAll A' H' vs ds
  | [], _, r => by cases r; exact .nil
  | d :: ds, _, r => by
    cases r with
    | cons h1 h2 => exact .cons (Rp.move h d _ h1) (RpAll.move h ds _ h2)
end
theorem RpAll.length : ∀ {vs : List V} {ds : List PyData}, RpAll A H vs ds → vs.length = ds.length
  | _, [], r => by cases r; rfl
  | _, _ :: ds, r => by cases r with | cons _ h => simp [RpAll.length h]
theorem RpAll.append : ∀ {vs ws : List V} {ds es : List PyData}, RpAll A H vs ds → RpAll A H ws es → RpAll A H (vs ++ ws) (ds ++ es)
  | _, _, [], _, r, q => by cases r; exact q
  | _, _, _ :: _, _, r, q => by cases r with | cons h1 h2 => exact .cons h1 (h2.append q)
theorem RpAll.get : ∀ {vs : List V} {ds : List PyData} {i : Nat} {d : PyData}, RpAll A H vs ds → ds[i]? = some d → ∃ v, vs[i]? = some v ∧ Rp A H v d
  | _, [], _, _, _, e => by simp at e
  | _, _ :: _, 0, _, r, e => by cases r with | cons h1 _ => simp at e; subst e; exact ⟨_, rfl, h1⟩
  | _, _ :: _, i + 1, _, r, e => by cases r with | cons _ h2 => simpa using RpAll.get h2 (by simpa using e)
theorem RpAll.getV : ∀ {vs : List V} {ds : List PyData} {i : Nat} {v : V}, RpAll A H vs ds → vs[i]? = some v → ∃ d, ds[i]? = some d ∧ Rp A H v d
  | _, [], _, _, r, e => by cases r; simp at e
  | _, _ :: _, 0, _, r, e => by cases r with | cons h1 _ => simp at e; subst e; exact ⟨_, rfl, h1⟩
  | _, _ :: _, i + 1, _, r, e => by cases r with | cons _ h2 => simpa using RpAll.getV h2 (by simpa using e)
theorem RpAll.take : ∀ {vs : List V} {ds : List PyData} (n : Nat), RpAll A H vs ds → RpAll A H (vs.take n) (ds.take n)
  | _, _, 0, _ => .nil
  | _, [], _ + 1, r => by cases r; exact .nil
  | _, _ :: _, n + 1, r => by cases r with | cons h1 h2 => exact .cons h1 (h2.take n)
theorem RpAll.drop : ∀ {vs : List V} {ds : List PyData} (n : Nat), RpAll A H vs ds → RpAll A H (vs.drop n) (ds.drop n)
  | _, _, 0, r => r
  | _, [], _ + 1, r => by cases r; exact .nil
  | _, _ :: _, n + 1, r => by cases r with | cons h1 h2 => exact h2.drop n
theorem RpAll.reverse : ∀ {vs : List V} {ds : List PyData}, RpAll A H vs ds → RpAll A H vs.reverse ds.reverse
  | _, [], r => by cases r; exact .nil
  | _, _ :: _, r => by cases r with | cons h1 h2 => rw [List.reverse_cons, List.reverse_cons]; exact h2.reverse.append (.cons h1 .nil)
theorem RpAll.set : ∀ {vs : List V} {ds : List PyData} {v : V} {d : PyData} (i : Nat), RpAll A H vs ds → Rp A H v d → RpAll A H (vs.set i v) (ds.set i d)
  | _, [], _, _, _, r, _ => by cases r; exact .nil
  | _, _ :: _, _, _, 0, r, q => by cases r with | cons _ h2 => exact .cons q h2
  | _, _ :: _, _, _, i + 1, r, q => by cases r with | cons h1 h2 => exact .cons h1 (h2.set i q)
end

/-- all but Z is as it was -/
def Keep (A : Av) (H H' : Hp) : Prop := ∀ a o, ¬ A a → H a = some o → H' a = some o
theorem Keep.refl {A : Av} (H : Hp) : Keep A H H := fun _ _ _ h => h
theorem Keep.trans {A : Av} {H H1 H2 : Hp} (a : Keep A H H1) (b : Keep A H1 H2) : Keep A H H2 := fun c o n h => b c o n (a c o n h)
theorem Keep.mono {A B : Av} {H H1 : Hp} (a : Keep A H H1) (h : ∀ x, A x → B x) : Keep B H H1 := fun c o n e => a c o (fun q => n (h c q)) e
theorem Keep.of_same {A : Av} {H H1 : Hp} (a : Same H H1) : Keep A H H1 := fun c o _ e => a c o e
theorem Rp.keep {A : Av} {H H' : Hp} {v : V} {d : PyData} (r : Rp A H v d) (k : Keep A H H') : Rp A H' v d := Rp.move (fun a o n e => ⟨n, k a o n e⟩) d v r
theorem RpAll.keep {A : Av} {H H' : Hp} {vs : List V} {ds : List PyData} (r : RpAll A H vs ds) (k : Keep A H H') : RpAll A H' vs ds := RpAll.move (fun a o n e => ⟨n, k a o n e⟩) ds vs r
theorem Rp.less {A B : Av} {H : Hp} {v : V} {d : PyData} (r : Rp A H v d) (h : ∀ x, B x → A x) : Rp B H v d := Rp.move (fun a o n e => ⟨fun q => n (h a q), e⟩) d v r
theorem RpAll.less {A B : Av} {H : Hp} {vs : List V} {ds : List PyData} (r : RpAll A H vs ds) (h : ∀ x, B x → A x) : RpAll B H vs ds := RpAll.move (fun a o n e => ⟨fun q => n (h a q), e⟩) ds vs r

theorem Rp.at {A : Av} {H H' : Hp} {p : Addr} {v : V} {d : PyData} (r : Rp A H v d) (n : H p = none) (k : Keep A H H') : Rp (fun a => A a ∨ a = p) H' v d :=
  Rp.move (fun a o na e => ⟨fun z => z.elim na (fun z => by rw [z, n] at e; cases e), k a o na e⟩) d v r
theorem RpAll.at {A : Av} {H H' : Hp} {p : Addr} {vs : List V} {ds : List PyData} (r : RpAll A H vs ds) (n : H p = none) (k : Keep A H H') : RpAll (fun a => A a ∨ a = p) H' vs ds :=
  RpAll.move (fun a o na e => ⟨fun z => z.elim na (fun z => by rw [z, n] at e; cases e), k a o na e⟩) ds vs r

/-! ### the resource: where the draws stand -/
abbrev Res := Option (Addr × Addr)
def Zr : Res → Av
  | none => fun _ => False
  | some (a, c) => fun x => x = a ∨ x = c
structure SrcAt (a c : Addr) (st : Src) (H : Hp) : Prop where
  dic : H a = some (.dK [(.inr "cells", .ref c), (.inr "left", .int st.left), (.inr "mixed", .int st.mixed), (.inr "turn", .int st.turn)])
  cel : H c = some (.lst (st.cells.map V.int))
  ne : a ≠ c
def okR (R : Res) (st : Src) (H : Hp) : Prop := match R with
  | none => True
  | some (a, c) => SrcAt a c st H
theorem okR.dom {R : Res} {st : Src} {H : Hp} (k : okR R st H) {a : Addr} (z : Zr R a) : H a ≠ none := by
  cases R with
  | none => exact z.elim
  | some p =>
    obtain ⟨b, c⟩ := p
    rcases z with e | e
    · rw [e, (show SrcAt b c st H from k).dic]; simp
    · rw [e, (show SrcAt b c st H from k).cel]; simp
theorem okR.keep {R : Res} {st : Src} {H H' : Hp} (k : okR R st H) (h : ∀ a o, Zr R a → H a = some o → H' a = some o) : okR R st H' := by
  cases R with
  | none => trivial
  | some p =>
    obtain ⟨b, c⟩ := p
    have k : SrcAt b c st H := k
    exact (⟨h _ _ (.inl rfl) k.dic, h _ _ (.inr rfl) k.cel, k.ne⟩ : SrcAt b c st H')
theorem okR.same {R : Res} {st : Src} {H H' : Hp} (k : okR R st H) (h : Same H H') : okR R st H' := k.keep fun a o _ e => h a o e

/-! ### slots -/
inductive Slot where
  | un | fz (d : PyData) | ow (d : PyData) | src
def avo (O : Av) (Γ : List Slot) (ow : Nat → Addr) : Av := fun a => O a ∨ ∃ (i : Nat) (d : PyData), Γ[i]? = some (.ow d) ∧ ow i = a
def OwnAt (A : Av) (H : Hp) (p : Addr) : PyData → Prop
  | .list ds => ∃ vs, H p = some (.lst vs) ∧ RpAll A H vs ds
  | _ => False
structure Rel (R : Res) (O : Av) (H0 : Hp) (ow : Nat → Addr) (Γ : List Slot) (σ : L2.St) (H : Hp) : Prop where
  len : Γ.length = σ.length
  hfz : ∀ (i : Nat) (d : PyData), Γ[i]? = some (.fz d) → ∃ v, σ[i]? = some (some v) ∧ Rp (avo O Γ ow) H v d
  how : ∀ (i : Nat) (d : PyData), Γ[i]? = some (.ow d) → σ[i]? = some (some (.ref (ow i))) ∧ OwnAt (avo O Γ ow) H (ow i) d ∧ ¬ O (ow i) ∧ H0 (ow i) = none
  hsrc : ∀ (i : Nat), Γ[i]? = some .src → ∃ a c, R = some (a, c) ∧ σ[i]? = some (some (.ref a))
  hinj : ∀ (i j : Nat) (d d' : PyData), Γ[i]? = some (.ow d) → Γ[j]? = some (.ow d') → ow i = ow j → i = j
  same : Keep (Zr R) H0 H
  zsub : ∀ a, Zr R a → O a
  odom : ∀ a, O a → H a ≠ none
theorem OwnAt.keep {A : Av} {H H' : Hp} {p : Addr} {d : PyData} (h : OwnAt A H p d) (k : Keep A H H') (e : ∀ o, H p = some o → H' p = some o) : OwnAt A H' p d := by
  cases d with
  | list ds => obtain ⟨vs, a, b⟩ := h; exact ⟨vs, e _ a, b.keep k⟩
  | _ => exact h.elim
theorem OwnAt.dom {A : Av} {H : Hp} {p : Addr} {d : PyData} (h : OwnAt A H p d) : H p ≠ none := by
  cases d with
  | list ds => obtain ⟨vs, a, b⟩ := h; rw [a]; simp
  | _ => exact h.elim
section
variable {R : Res} {O : Av} {H0 H H' : Hp} {ow : Nat → Addr} {Γ : List Slot} {σ : L2.St}
theorem Rel.adom (r : Rel R O H0 ow Γ σ H) {a : Addr} (h : avo O Γ ow a) : H a ≠ none := by
  rcases h with h | ⟨i, d, e, rfl⟩
  · exact r.odom a h
  · exact (r.how i d e).2.1.dom
theorem Rel.zavo (r : Rel R O H0 ow Γ σ H) {a : Addr} (h : Zr R a) : avo O Γ ow a := .inl (r.zsub a h)
theorem Rel.keepA (r : Rel R O H0 ow Γ σ H) (k : Keep (Zr R) H H') : Keep (avo O Γ ow) H H' := k.mono fun _ z => r.zavo z
/-- the heap has grown (and the draws have gone on) -/
theorem Rel.grow (r : Rel R O H0 ow Γ σ H) (k : Keep (Zr R) H H') (z : ∀ a, Zr R a → H' a ≠ none) : Rel R O H0 ow Γ σ H' where
  len := r.len
  hfz := fun i d e => let ⟨v, e1, h⟩ := r.hfz i d e; ⟨v, e1, h.keep (r.keepA k)⟩
  how := fun i d e => let ⟨e1, h, n, f⟩ := r.how i d e; ⟨e1, h.keep (r.keepA k) fun o q => k _ o (fun z => n (r.zsub _ z)) q, n, f⟩
  hsrc := r.hsrc
  hinj := r.hinj
  same := r.same.trans k
  zsub := r.zsub
  odom := fun a h => by
    by_cases z1 : Zr R a
    · exact z a z1
    · cases e : H a with
      | none => exact absurd e (r.odom a h)
      | some o => rw [k a o z1 e]; simp
end

/-! ### encodings -/
def eInt (i : Int) : PyData := .int i
def eBool (b : Bool) : PyData := .bool b
def eStr (x : Str) : PyData := .str x
def eNon (_ : Unit) : PyData := .none
def eL {α : Type} (e : α → PyData) (xs : List α) : PyData := .list (xs.map e)
def eT {α : Type} (e : α → PyData) (xs : List α) : PyData := .tuple (xs.map e)
def eO {α : Type} (e : α → PyData) : Option α → PyData
  | none => .none
  | some a => e a
def eD (d : PyData) : PyData := d
/-- tuples of a written length -/
def eU (_ : Unit) : List PyData := []
def eC {α β : Type} (e : α → PyData) (f : β → List PyData) (p : α × β) : List PyData := e p.1 :: f p.2
def eP {α : Type} (f : α → List PyData) (p : α) : PyData := .tuple (f p)

/-! ### the judgements -/
section
variable {α β : Type}
def tE (R : Res) (Γ : List Slot) (enc : α → PyData) (m : M α) : TE := fun σ H Q => ∃ O H0 ow st r st', Rel R O H0 ow Γ σ H ∧ okR R st H ∧ m st = some (r, st') ∧
  ∀ v H', Keep (Zr R) H H' → okR R st' H' → Rp (avo O Γ ow) H' v (enc r) → Q v H'
/-- and one place more -/
def avp (A : Av) (p : Addr) : Av := fun a => A a ∨ a = p
/-- a new list -/
def tF (R : Res) (Γ : List Slot) (enc : α → PyData) (m : M (List α)) : TE := fun σ H Q => ∃ O H0 ow st r st', Rel R O H0 ow Γ σ H ∧ okR R st H ∧ m st = some (r, st') ∧
  ∀ p vs H', H p = none → Keep (Zr R) H H' → okR R st' H' → H' p = some (.lst vs) → RpAll (avp (avo O Γ ow) p) H' vs (r.map enc) → Q (.ref p) H'
def tT (R : Res) (Γ : List Slot) (m : M Bool) : TT := fun σ H Q => ∃ O H0 ow st r st', Rel R O H0 ow Γ σ H ∧ okR R st H ∧ m st = some (r, st') ∧
  ∀ H', Keep (Zr R) H H' → okR R st' H' → Q r H'
/-- an argument: data, or the draws -/
def RpS (R : Res) (A : Av) (H : Hp) (v : V) : Slot → Prop
  | .fz d => Rp A H v d
  | .src => ∃ a c, R = some (a, c) ∧ v = .ref a
  | _ => False
inductive RpSs (R : Res) (A : Av) (H : Hp) : List V → List Slot → Prop
  | nil : RpSs R A H [] []
  | cons {v : V} {vs : List V} {d : Slot} {ds : List Slot} : RpS R A H v d → RpSs R A H vs ds → RpSs R A H (v :: vs) (d :: ds)
def tA (R : Res) (Γ : List Slot) (enc : α → List Slot) (m : M α) : TA := fun σ H Q => ∃ O H0 ow st r st', Rel R O H0 ow Γ σ H ∧ okR R st H ∧ m st = some (r, st') ∧
  ∀ vs H', Keep (Zr R) H H' → okR R st' H' → RpSs R (avo O Γ ow) H' vs (enc r) → Q vs H'
end
/-- the end of a block -/
inductive OutD where
  | nx (Γ : List Slot) | rt (d : PyData)
/-- what a block may change: what it owns -/
structure Step (O : Av) (Γ : List Slot) (ow : Nat → Addr) (H : Hp) (Γ' : List Slot) (ow' : Nat → Addr) (H' : Hp) : Prop where
  keep : Keep (avo O Γ ow) H H'
  sub : ∀ (i : Nat) (d : PyData), Γ'[i]? = some (.ow d) → avo O Γ ow (ow' i) ∨ H (ow' i) = none
def tS {κ : Type} (R : Res) (Γ : List Slot) (out : κ → OutD) (m : M κ) : TS := fun D σ H => ∃ O H0 ow st r st', Rel R O H0 ow Γ σ H ∧ okR R st H ∧ m st = some (r, st') ∧
  match out r with
  | .nx Γ' => ∀ ow' σ' H', Rel R O H0 ow' Γ' σ' H' → okR R st' H' → Step O Γ ow H Γ' ow' H' → D.nx σ' H'
  | .rt d => ∀ v H', Keep (Zr R) H0 H' → okR R st' H' → Rp O H' v d → D.rt v H'

section
variable {X : Cx} {e : Expr} {t t' : TE}
theorem PE.weak (h : PE X e t) (w : ∀ σ H Q, t' σ H Q → t σ H Q) : PE X e t' := ⟨fun pins s σ H Q I q => h.run pins s σ H Q I (w σ H Q q)⟩
theorem PE.ex {ι : Type} {t : ι → TE} (h : ∀ x, PE X e (t x)) : PE X e (fun σ H Q => ∃ x, t x σ H Q) := ⟨fun pins s σ H Q I ⟨x, q⟩ => (h x).run pins s σ H Q I q⟩
theorem PT.weak {t t' : TT} (h : PT X e t) (w : ∀ σ H Q, t' σ H Q → t σ H Q) : PT X e t' := ⟨fun pins s σ H Q I q => h.run pins s σ H Q I (w σ H Q q)⟩
theorem PT.ex {ι : Type} {t : ι → TT} (h : ∀ x, PT X e (t x)) : PT X e (fun σ H Q => ∃ x, t x σ H Q) := ⟨fun pins s σ H Q I ⟨x, q⟩ => (h x).run pins s σ H Q I q⟩
theorem PW.weak {t t' : TT} (h : PW X e t) (w : ∀ σ H Q, t' σ H Q → t σ H Q) : PW X e t' := ⟨fun wh pins s σ H Q I q => h.run wh pins s σ H Q I (w σ H Q q)⟩
theorem PA.weak {es : List Expr} {t t' : TA} (h : PA X es t) (w : ∀ σ H Q, t' σ H Q → t σ H Q) : PA X es t' := ⟨fun pos pins s σ H Q I q => h.run pos pins s σ H Q I (w σ H Q q)⟩
theorem PS.weak {st : Stmt} {t t' : TS} (h : PS X st t) (w : ∀ D σ H, t' D σ H → t D σ H) : PS X st t' := ⟨fun pins s σ H D I q => h.run pins s σ H D I (w D σ H q)⟩
theorem PSs.weak {st : List Stmt} {t t' : TS} (h : PSs X st t) (w : ∀ D σ H, t' D σ H → t D σ H) : PSs X st t' := ⟨fun pins s σ H D I q => h.run pins s σ H D I (w D σ H q)⟩
theorem PSs.ex {ι : Type} {st : List Stmt} {t : ι → TS} (h : ∀ x, PSs X st (t x)) : PSs X st (fun D σ H => ∃ x, t x D σ H) := ⟨fun pins s σ H D I ⟨x, q⟩ => (h x).run pins s σ H D I q⟩
theorem PG.weak {t t' : TG} (h : PG X e t) (w : ∀ v σ H Q, t' v σ H Q → t v σ H Q) : PG X e t' := ⟨fun pins s σ H v u Q I r q => h.run pins s σ H v u Q I r (w v σ H Q q)⟩
end
abbrev EJ {α : Type} (X : Cx) (R : Res) (Γ : List Slot) (e : Expr) (enc : α → PyData) (m : M α) : Prop := PE X e (tE R Γ enc m)
abbrev EF {α : Type} (X : Cx) (R : Res) (Γ : List Slot) (e : Expr) (enc : α → PyData) (m : M (List α)) : Prop := PE X e (tF R Γ enc m)
abbrev TJ (X : Cx) (R : Res) (Γ : List Slot) (e : Expr) (m : M Bool) : Prop := PT X e (tT R Γ m)
abbrev AJ {α : Type} (X : Cx) (R : Res) (Γ : List Slot) (es : List Expr) (enc : α → List Slot) (m : M α) : Prop := PA X es (tA R Γ enc m)
abbrev SJ {κ : Type} (X : Cx) (R : Res) (Γ : List Slot) (st : List Stmt) (out : κ → OutD) (m : M κ) : Prop := PSs X st (tS R Γ out m)
end Pz

namespace Pz
open PySem PySem.Spec PyProof.Rows L2

/-! ### what a step hands back -/
def Post {γ : Type} (A : Av) (H : Hp) (ec : γ → PyData) (z : γ) (Q : VK) : Prop := ∀ v H', Same H H' → Rp A H' v (ec z) → Q v H'
def PostF {γ : Type} (A : Av) (H : Hp) (ec : γ → PyData) (z : List γ) (Q : VK) : Prop := ∀ p vs H', H p = none → Same H H' → H' p = some (.lst vs) → RpAll (avp A p) H' vs (z.map ec) → Q (.ref p) H'
def Adom (A : Av) (H : Hp) : Prop := ∀ a, A a → H a ≠ none
section
variable {α β γ δ : Type} {ea : α → PyData} {eb : β → PyData} {ec : γ → PyData} {ed : δ → PyData} {A : Av} {H H' : Hp}
theorem Adom.same (h : Adom A H) (s : Same H H') : Adom A H' := fun a z => by
  cases e : H a with
  | none => exact absurd e (h a z)
  | some o => rw [s a o e]; simp
theorem Adom.fresh (h : Adom A H) {p : Addr} (n : H p = none) : ¬ A p := fun z => h p z n
theorem PostF.toE {z : List γ} {Q : VK} (h : Post A H (eL ec) z Q) (ad : Adom A H) : PostF A H ec z Q := fun p vs H' n s e r => h _ _ s (.lst (ad.fresh n) e (r.less fun _ z => .inl z))
theorem same_new {H : Hp} {p : Addr} {o : HO} (h : H p = none) : Same H (upd H p o) := fun b x e => by rw [upd_ne (ne_of_none e h)]; exact e
/-- a two-place step by values -/
def VOp (r : R2) (ea : α → PyData) (eb : β → PyData) (ec : γ → PyData) (f : α → β → Option γ) : Prop :=
  ∀ (A : Av) (H : Hp) x y vx vy Q z, Adom A H → Rp A H vx (ea x) → Rp A H vy (eb y) → f x y = some z → Post A H ec z Q → r vx vy H Q
def VOpF (r : R2) (ea : α → PyData) (eb : β → PyData) (ec : γ → PyData) (f : α → β → Option (List γ)) : Prop :=
  ∀ (A : Av) (H : Hp) x y vx vy Q z, Adom A H → Rp A H vx (ea x) → Rp A H vy (eb y) → f x y = some z → PostF A H ec z Q → r vx vy H Q
def V1 (r : V → Hp → VK → Prop) (ea : α → PyData) (ec : γ → PyData) (f : α → Option γ) : Prop :=
  ∀ (A : Av) (H : Hp) x vx Q z, Adom A H → Rp A H vx (ea x) → f x = some z → Post A H ec z Q → r vx H Q
def V1F (r : V → Hp → VK → Prop) (ea : α → PyData) (ec : γ → PyData) (f : α → Option (List γ)) : Prop :=
  ∀ (A : Av) (H : Hp) x vx Q z, Adom A H → Rp A H vx (ea x) → f x = some z → PostF A H ec z Q → r vx H Q
end

section
variable {α β γ δ : Type} {ea : α → PyData} {eb : β → PyData} {ec : γ → PyData} {ed : δ → PyData} {X : Cx} {R : Res} {Γ : List Slot} {e a b c : Expr} {pos : Pos}
theorem Rel.ad {O : Av} {H0 H : Hp} {ow : Nat → Addr} {σ : L2.St} (r : Rel R O H0 ow Γ σ H) : Adom (avo O Γ ow) H := fun _ z => r.adom z
theorem okZ {st : Src} {H : Hp} (k : okR R st H) : ∀ a, Zr R a → H a ≠ none := fun _ z => k.dom z

/-! ### names and constants -/
theorem e_var (i : Nat) {α : Type} (enc : α → PyData) (r : α) {x : Str} (hΓ : Γ[i]? = some (.fz (enc r)) := by rfl) (hN : X.N[i]? = some x := by rfl)
    (hv : Vis X.env.scope x := by first | exact Or.inl rfl | exact Or.inr (Or.inl rfl) | exact Or.inr (Or.inr rfl)) (hd : (x == ("__debug__" : Str)) = false := by decide)
    (hcd : (x == ("__classdict__" : Str)) = false := by decide) : EJ X R Γ (.Name x pos) enc (pureM r) := by
  refine PE.weak (pe_var hN hv hd hcd) fun σ H Q ⟨O, H0, ow, st, r', st', rel, ok, e, q⟩ => ?_
  obtain ⟨rfl, rfl⟩ := pure_some e
  obtain ⟨v, e1, rp⟩ := rel.hfz i _ hΓ
  exact ⟨v, e1, q v H (Keep.refl H) ok rp⟩
/-- an own list, read as it stands, handed on as data without lists in it: see e_borrow -/
theorem e_const {α : Type} {enc : α → PyData} {r : α} {v : V} (h : PE X e (tC v)) (hr : ∀ A H, Rp A H v (enc r)) : EJ X R Γ e enc (pureM r) := by
  refine PE.weak h fun σ H Q ⟨O, H0, ow, st, r', st', rel, ok, e, q⟩ => ?_
  obtain ⟨rfl, rfl⟩ := pure_some e
  exact q v H (Keep.refl H) ok (hr _ _)
theorem e_int {i j} : EJ X R Γ (.Constant (.int i) j pos) eInt (pureM i) := e_const pe_int fun _ _ => .int i
theorem e_bool {b j} : EJ X R Γ (.Constant (.bool b) j pos) eBool (pureM b) := e_const pe_bl fun _ _ => .bl b
theorem e_str {x j} : EJ X R Γ (.Constant (.str x) j pos) eStr (pureM x) := e_const pe_str fun _ _ => .str x
theorem e_non {j} : EJ X R Γ (.Constant .none j pos) eNon (pureM ()) := e_const pe_non fun _ _ => .non

/-! ### another encoding of the same -/
theorem e_enc {α β : Type} {ea : α → PyData} {eb : β → PyData} {m : M α} (f : α → β) (h : EJ X R Γ e ea m) (hf : ∀ x, ea x = eb (f x)) : EJ X R Γ e eb (bindM m fun x => pureM (f x)) := by
  refine PE.weak h fun σ H Q ⟨O, H0, ow, st, r', st', rel, ok, e, q⟩ => ?_
  obtain ⟨x, u, e1, e2⟩ := bind_some e
  obtain ⟨rfl, rfl⟩ := pure_some e2
  exact ⟨O, H0, ow, st, x, u, rel, ok, e1, fun v H' k o r => q v H' k o (by rw [← hf]; exact r)⟩
theorem e_as {α β : Type} {ea : α → PyData} {eb : β → PyData} (f : α → β) {m : M α} {m' : M β} (h : EJ X R Γ e ea m) (hf : ∀ x, ea x = eb (f x)) (hm : m' = bindM m fun x => pureM (f x)) : EJ X R Γ e eb m' := hm ▸ e_enc f h hf
theorem f_e {m : M (List γ)} (h : EF X R Γ e ec m) : EJ X R Γ e (eL ec) m := by
  refine PE.weak h fun σ H Q ⟨O, H0, ow, st, r', st', rel, ok, e, q⟩ => ⟨O, H0, ow, st, r', st', rel, ok, e, fun p vs H' n k o e1 r => ?_⟩
  exact q _ _ k o (.lst (rel.ad.fresh n) e1 (r.less fun _ z => .inl z))
theorem f_enc {α β : Type} {ea : α → PyData} {eb : β → PyData} {m : M (List α)} (f : α → β) (h : EF X R Γ e ea m) (hf : ∀ x, ea x = eb (f x)) : EF X R Γ e eb (bindM m fun x => pureM (x.map f)) := by
  refine PE.weak h fun σ H Q ⟨O, H0, ow, st, r', st', rel, ok, e, q⟩ => ?_
  obtain ⟨x, u, e1, e2⟩ := bind_some e
  obtain ⟨rfl, rfl⟩ := pure_some e2
  refine ⟨O, H0, ow, st, x, u, rel, ok, e1, fun p vs H' n k o e r => q p vs H' n k o e ?_⟩
  rw [List.map_map, show eb ∘ f = ea from funext fun x => (hf x).symm]
  exact r
/-- the same computation, otherwise written -/
theorem e_eq {α : Type} {enc : α → PyData} {m m' : M α} (h : EJ X R Γ e enc m) (hm : m' = m) : EJ X R Γ e enc m' := hm ▸ h
theorem f_eq {α : Type} {enc : α → PyData} {m m' : M (List α)} (h : EF X R Γ e enc m) (hm : m' = m) : EF X R Γ e enc m' := hm ▸ h

/-! ### steps by values -/
theorem keepS {H H1 H2 : Hp} {A : Av} (k : Keep A H H1) (s : Same H1 H2) : Keep A H H2 := k.trans (Keep.of_same s)
theorem noneK {H H1 : Hp} {p : Addr} {st : Src} (k : Keep (Zr R) H H1) (o : okR R st H1) (n : H1 p = none) : H p = none := by
  cases e : H p with
  | none => rfl
  | some u =>
    by_cases z : Zr R p
    · exact absurd n (o.dom z)
    · rw [k p u z e] at n; cases n
/-- two operands, then a step -/
theorem e_two {r : R2} {ma : M α} {mb : M β} {f : α → β → Option γ} (h : PE X e (tOp r (tE R Γ ea ma) (tE R Γ eb mb))) (hv : VOp r ea eb ec f) : EJ X R Γ e ec (bindM ma fun x => bindM mb fun y => optM (f x y)) := by
  refine PE.weak h fun σ H Q ⟨O, H0, ow, st, z, st', rel, ok, e, q⟩ => ?_
  obtain ⟨x, s1, e1, e'⟩ := bind_some e
  obtain ⟨y, s2, e2, e3⟩ := bind_some e'
  obtain ⟨e4, rfl⟩ := optM_inv e3
  refine ⟨O, H0, ow, st, x, s1, rel, ok, e1, fun vx H1 k1 o1 r1 => ?_⟩
  refine ⟨O, H0, ow, s1, y, s2, rel.grow k1 (okZ o1), o1, e2, fun vy H2 k2 o2 r2 => ?_⟩
  have rel2 := (rel.grow k1 (okZ o1)).grow k2 (okZ o2)
  exact hv (avo O Γ ow) H2 x y vx vy Q z rel2.ad (r1.keep ((rel.grow k1 (okZ o1)).keepA k2)) r2 e4 fun v H3 s3 r3 => q v H3 ((k1.trans k2).trans (Keep.of_same s3)) (o2.same s3) r3
theorem f_two {r : R2} {ma : M α} {mb : M β} {f : α → β → Option (List γ)} (h : PE X e (tOp r (tE R Γ ea ma) (tE R Γ eb mb))) (hv : VOpF r ea eb ec f) : EF X R Γ e ec (bindM ma fun x => bindM mb fun y => optM (f x y)) := by
  refine PE.weak h fun σ H Q ⟨O, H0, ow, st, z, st', rel, ok, e, q⟩ => ?_
  obtain ⟨x, s1, e1, e'⟩ := bind_some e
  obtain ⟨y, s2, e2, e3⟩ := bind_some e'
  obtain ⟨e4, rfl⟩ := optM_inv e3
  refine ⟨O, H0, ow, st, x, s1, rel, ok, e1, fun vx H1 k1 o1 r1 => ?_⟩
  refine ⟨O, H0, ow, s1, y, s2, rel.grow k1 (okZ o1), o1, e2, fun vy H2 k2 o2 r2 => ?_⟩
  have rel2 := (rel.grow k1 (okZ o1)).grow k2 (okZ o2)
  exact hv (avo O Γ ow) H2 x y vx vy Q z rel2.ad (r1.keep ((rel.grow k1 (okZ o1)).keepA k2)) r2 e4 fun p vs H3 n s3 e r3 => q p vs H3 (noneK (k1.trans k2) o2 n) ((k1.trans k2).trans (Keep.of_same s3)) (o2.same s3) e r3
theorem t_two {r : R2} {ma : M α} {mb : M β} {f : α → β → Option Bool} (h : PT X e (tTest (tOp r (tE R Γ ea ma) (tE R Γ eb mb)))) (hv : VOp r ea eb eBool f) : TJ X R Γ e (bindM ma fun x => bindM mb fun y => optM (f x y)) := by
  refine PT.weak h fun σ H Q ⟨O, H0, ow, st, z, st', rel, ok, e, q⟩ => ?_
  obtain ⟨x, s1, e1, e'⟩ := bind_some e
  obtain ⟨y, s2, e2, e3⟩ := bind_some e'
  obtain ⟨e4, rfl⟩ := optM_inv e3
  refine ⟨O, H0, ow, st, x, s1, rel, ok, e1, fun vx H1 k1 o1 r1 => ?_⟩
  refine ⟨O, H0, ow, s1, y, s2, rel.grow k1 (okZ o1), o1, e2, fun vy H2 k2 o2 r2 => ?_⟩
  have rel2 := (rel.grow k1 (okZ o1)).grow k2 (okZ o2)
  exact hv (avo O Γ ow) H2 x y vx vy _ z rel2.ad (r1.keep ((rel.grow k1 (okZ o1)).keepA k2)) r2 e4 fun v H3 s3 r3 => by
    cases r3
    exact ⟨z, rfl, q H3 ((k1.trans k2).trans (Keep.of_same s3)) (o2.same s3)⟩
theorem e_bin {op : Operator} {r : R2} {ma : M α} {mb : M β} {f : α → β → Option γ} (ho : OpR X (binaryOp op) r) (hv : VOp r ea eb ec f) (ha : EJ X R Γ a ea ma) (hb : EJ X R Γ b eb mb) : EJ X R Γ (.BinOp a op b pos) ec (bindM ma fun x => bindM mb fun y => optM (f x y)) := e_two (pe_op ho ha hb) hv
theorem f_bin {op : Operator} {r : R2} {ma : M α} {mb : M β} {f : α → β → Option (List γ)} (ho : OpR X (binaryOp op) r) (hv : VOpF r ea eb ec f) (ha : EJ X R Γ a ea ma) (hb : EJ X R Γ b eb mb) : EF X R Γ (.BinOp a op b pos) ec (bindM ma fun x => bindM mb fun y => optM (f x y)) := f_two (pe_op ho ha hb) hv
theorem e_cmp {op : CmpOp} {r : R2} {ma : M α} {mb : M β} {f : α → β → Option Bool} (ho : OpR X (compareOp op) r) (hv : VOp r ea eb eBool f) (ha : EJ X R Γ a ea ma) (hb : EJ X R Γ b eb mb) (hm : behindInMarks op b = false := by first | exact nomark _ | rfl) :
    EJ X R Γ (.Compare a [op] [b] pos) eBool (bindM ma fun x => bindM mb fun y => optM (f x y)) := e_two (pe_cmpR ho ha hb hm) hv
theorem t_cmp {op : CmpOp} {r : R2} {ma : M α} {mb : M β} {f : α → β → Option Bool} (ho : OpR X (compareOp op) r) (hv : VOp r ea eb eBool f) (ha : EJ X R Γ a ea ma) (hb : EJ X R Γ b eb mb) (hm : behindInMarks op b = false := by first | exact nomark _ | rfl) :
    TJ X R Γ (.Compare a [op] [b] pos) (bindM ma fun x => bindM mb fun y => optM (f x y)) := t_two (pt_cmpR ho ha hb hm) hv
theorem e_ix {r : R2} {ma : M α} {mb : M β} {f : α → β → Option γ} (ho : IxR X r) (hv : VOp r ea eb ec f) (ha : EJ X R Γ a ea ma) (hb : EJ X R Γ b eb mb) (hs : PlainIx b := by intro _ _; rfl) :
    EJ X R Γ (.Subscript a b pos) ec (bindM ma fun x => bindM mb fun y => optM (f x y)) := e_two (pe_ix ho ha hb hs) hv
theorem e_one {r : V → Hp → VK → Prop} {ma : M α} {f : α → Option γ} (h : PE X e (tUn r (tE R Γ ea ma))) (hv : V1 r ea ec f) : EJ X R Γ e ec (bindM ma fun x => optM (f x)) := by
  refine PE.weak h fun σ H Q ⟨O, H0, ow, st, z, st', rel, ok, e, q⟩ => ?_
  obtain ⟨x, s1, e1, e3⟩ := bind_some e
  obtain ⟨e4, rfl⟩ := optM_inv e3
  refine ⟨O, H0, ow, st, x, s1, rel, ok, e1, fun vx H1 k1 o1 r1 => ?_⟩
  exact hv (avo O Γ ow) H1 x vx Q z (rel.grow k1 (okZ o1)).ad r1 e4 fun v H3 s3 r3 => q v H3 (k1.trans (Keep.of_same s3)) (o1.same s3) r3
theorem f_one {r : V → Hp → VK → Prop} {ma : M α} {f : α → Option (List γ)} (h : PE X e (tUn r (tE R Γ ea ma))) (hv : V1F r ea ec f) : EF X R Γ e ec (bindM ma fun x => optM (f x)) := by
  refine PE.weak h fun σ H Q ⟨O, H0, ow, st, z, st', rel, ok, e, q⟩ => ?_
  obtain ⟨x, s1, e1, e3⟩ := bind_some e
  obtain ⟨e4, rfl⟩ := optM_inv e3
  refine ⟨O, H0, ow, st, x, s1, rel, ok, e1, fun vx H1 k1 o1 r1 => ?_⟩
  exact hv (avo O Γ ow) H1 x vx Q z (rel.grow k1 (okZ o1)).ad r1 e4 fun p vs H3 n s3 e r3 => q p vs H3 (noneK k1 o1 n) (k1.trans (Keep.of_same s3)) (o1.same s3) e r3
theorem e_un {op : UnaryOp} {r : V → Hp → VK → Prop} {ma : M α} {f : α → Option γ} (ho : UnR X (unaryOp op) r) (hv : V1 r ea ec f) (ha : EJ X R Γ a ea ma) : EJ X R Γ (.UnaryOp op a pos) ec (bindM ma fun x => optM (f x)) := e_one (pe_un ho ha) hv

/-! ### argument lists -/
theorem a_nil : AJ X R Γ [] (fun _ : Unit => []) (pureM ()) := by
  refine PA.weak pa_nil fun σ H Q ⟨O, H0, ow, st, z, st', rel, ok, e, q⟩ => ?_
  obtain ⟨rfl, rfl⟩ := pure_some e
  exact q [] H (Keep.refl H) ok .nil
theorem RpS.keep {A : Av} {H H' : Hp} {v : V} {s : Slot} (r : RpS R A H v s) (k : Keep A H H') : RpS R A H' v s := by
  cases s with
  | fz d => exact Rp.keep (show Rp A H v d from r) k
  | src => exact r
  | _ => exact r.elim
theorem a_cons {es : List Expr} {en : β → List Slot} {ma : M α} {mb : M β} (ha : EJ X R Γ a ea ma) (hb : AJ X R Γ es en mb) (hs : starEach (a :: es) X.env = (false, eval a X.env) :: starEach es X.env := by rfl) :
    AJ X R Γ (a :: es) (fun p : α × β => .fz (ea p.1) :: en p.2) (bindM ma fun x => bindM mb fun y => pureM (x, y)) := by
  refine PA.weak (pa_cons ha hb hs) fun σ H Q ⟨O, H0, ow, st, z, st', rel, ok, e, q⟩ => ?_
  obtain ⟨x, s1, e1, e'⟩ := bind_some e
  obtain ⟨y, s2, e2, e3⟩ := bind_some e'
  obtain ⟨rfl, rfl⟩ := pure_some e3
  refine ⟨O, H0, ow, st, x, s1, rel, ok, e1, fun vx H1 k1 o1 r1 => ?_⟩
  refine ⟨O, H0, ow, s1, y, s2, rel.grow k1 (okZ o1), o1, e2, fun vs H2 k2 o2 r2 => ?_⟩
  exact q _ H2 (k1.trans k2) o2 (.cons (r1.keep ((rel.grow k1 (okZ o1)).keepA k2)) r2)
/-- the draws handed on: the name in slot i -/
theorem a_src (i : Nat) {x : Str} {es : List Expr} {en : β → List Slot} {mb : M β} (hb : AJ X R Γ es en mb) (hΓ : Γ[i]? = some .src := by rfl) (hN : X.N[i]? = some x := by rfl)
    (hv : Vis X.env.scope x := by first | exact Or.inl rfl | exact Or.inr (Or.inl rfl) | exact Or.inr (Or.inr rfl)) (hd : (x == ("__debug__" : Str)) = false := by decide)
    (hcd : (x == ("__classdict__" : Str)) = false := by decide) (hs : starEach (.Name x pos :: es) X.env = (false, eval (.Name x pos) X.env) :: starEach es X.env := by rfl) :
    AJ X R Γ (.Name x pos :: es) (fun p : β => .src :: en p) mb := by
  refine PA.weak (pa_cons (pe_var hN hv hd hcd) hb hs) fun σ H Q ⟨O, H0, ow, st, z, st', rel, ok, e, q⟩ => ?_
  obtain ⟨a, c, e1, e2⟩ := rel.hsrc i hΓ
  exact ⟨_, e2, O, H0, ow, st, z, st', rel, ok, e, fun vs H2 k2 o2 r2 => q _ H2 k2 o2 (.cons ⟨a, c, e1, rfl⟩ r2)⟩

/-! ### displays -/
/-- the data of an argument list -/
def Dat (l : List PyData) : List Slot := l.map .fz
theorem RpSs.dat {A : Av} {H : Hp} : ∀ {vs : List V} {l : List PyData}, RpSs R A H vs (l.map .fz) → RpAll A H vs l
  | _, [], h => by cases h; exact .nil
  | _, _ :: _, h => by
    cases h with
    | cons h1 h2 => exact .cons h1 (RpSs.dat h2)
theorem e_tup {es : List Expr} {k : Nat} {en : α → List Slot} {m : M α} (f : α → List PyData) (h : AJ X R Γ es en m) (hf : ∀ x, en x = (f x).map .fz := by intro _; rfl) (hl : ∀ x, (f x).length ≤ sizeLine := by intro _; exact (by decide : (_ : Nat) ≤ sizeLine)) :
    EJ X R Γ (.Tuple es k pos) (eP f) m := by
  refine PE.weak (pe_tup h) fun σ H Q ⟨O, H0, ow, st, z, st', rel, ok, e, q⟩ => ⟨O, H0, ow, st, z, st', rel, ok, e, fun vs H1 k1 o1 r1 => ?_⟩
  have r2 : RpAll _ _ _ _ := RpSs.dat (R := R) (by rw [hf] at r1; exact r1)
  refine ⟨by rw [r2.length]; exact hl z, fun p n => q _ _ (keepS k1 (same_new n)) (o1.same (same_new n)) ?_⟩
  exact .tup ((rel.grow k1 (okZ o1)).ad.fresh n) upd_same (r2.keep (Keep.of_same (same_new n)))
theorem f_lst {es : List Expr} {k : Nat} {en : α → List Slot} {m : M α} (f : α → List γ) (h : AJ X R Γ es en m) (hf : ∀ x, en x = ((f x).map ec).map .fz := by intro _; rfl) (hl : ∀ x, (f x).length ≤ sizeLine := by intro _; exact (by decide : (_ : Nat) ≤ sizeLine)) :
    EF X R Γ (.List es pos) ec (bindM m fun x => pureM (f x)) := by
  refine PE.weak (pe_lst h) fun σ H Q ⟨O, H0, ow, st, z, st', rel, ok, e, q⟩ => ?_
  obtain ⟨x, s1, e1, e2⟩ := bind_some e
  obtain ⟨rfl, rfl⟩ := pure_some e2
  refine ⟨O, H0, ow, st, x, s1, rel, ok, e1, fun vs H1 k1 o1 r1 => ?_⟩
  have r2 : RpAll _ _ _ _ := RpSs.dat (R := R) (by rw [hf] at r1; exact r1)
  refine ⟨by rw [r2.length, List.length_map]; exact hl x, fun p n => q p vs _ (noneK k1 o1 n) (keepS k1 (same_new n)) (o1.same (same_new n)) upd_same (r2.at n (Keep.of_same (same_new n)))⟩

/-! ### calls of built-ins -/
/-- a step on an argument list, by values -/
def VN (r : List V → Hp → VK → Prop) (en : α → List PyData) (ec : γ → PyData) (f : α → Option γ) : Prop :=
  ∀ (A : Av) (H : Hp) x vs Q z, Adom A H → RpAll A H vs (en x) → f x = some z → Post A H ec z Q → r vs H Q
def VNF (r : List V → Hp → VK → Prop) (en : α → List PyData) (ec : γ → PyData) (f : α → Option (List γ)) : Prop :=
  ∀ (A : Av) (H : Hp) x vs Q z, Adom A H → RpAll A H vs (en x) → f x = some z → PostF A H ec z Q → r vs H Q
theorem e_many {es : List Expr} {r : List V → Hp → VK → Prop} {en : α → List Slot} {m : M α} {f : α → Option γ} (dn : α → List PyData) (h : PE X e (tCB r (tA R Γ en m))) (hv : VN r dn ec f) (hf : ∀ x, en x = (dn x).map .fz := by intro _; rfl) :
    EJ X R Γ e ec (bindM m fun x => optM (f x)) := by
  refine PE.weak h fun σ H Q ⟨O, H0, ow, st, z, st', rel, ok, e, q⟩ => ?_
  obtain ⟨x, s1, e1, e3⟩ := bind_some e
  obtain ⟨e4, rfl⟩ := optM_inv e3
  refine ⟨O, H0, ow, st, x, s1, rel, ok, e1, fun vx H1 k1 o1 r1 => ?_⟩
  exact hv (avo O Γ ow) H1 x vx Q z (rel.grow k1 (okZ o1)).ad (RpSs.dat (by rw [hf] at r1; exact r1)) e4 fun v H3 s3 r3 => q v H3 (k1.trans (Keep.of_same s3)) (o1.same s3) r3
theorem f_many {es : List Expr} {r : List V → Hp → VK → Prop} {en : α → List Slot} {m : M α} {f : α → Option (List γ)} (dn : α → List PyData) (h : PE X e (tCB r (tA R Γ en m))) (hv : VNF r dn ec f) (hf : ∀ x, en x = (dn x).map .fz := by intro _; rfl) :
    EF X R Γ e ec (bindM m fun x => optM (f x)) := by
  refine PE.weak h fun σ H Q ⟨O, H0, ow, st, z, st', rel, ok, e, q⟩ => ?_
  obtain ⟨x, s1, e1, e3⟩ := bind_some e
  obtain ⟨e4, rfl⟩ := optM_inv e3
  refine ⟨O, H0, ow, st, x, s1, rel, ok, e1, fun vx H1 k1 o1 r1 => ?_⟩
  exact hv (avo O Γ ow) H1 x vx Q z (rel.grow k1 (okZ o1)).ad (RpSs.dat (by rw [hf] at r1; exact r1)) e4 fun p vs H3 n s3 e r3 => q p vs H3 (noneK k1 o1 n) (k1.trans (Keep.of_same s3)) (o1.same s3) e r3

/-! ### tests -/
theorem t_val {m : M Bool} (h : EJ X R Γ e eBool m) (he : ∀ whole, isTrue e X.env whole = (do let v ← whole; standAt e.pos; holding [v] (truthy v)) := by intro _; rfl) : TJ X R Γ e m := by
  refine PT.weak (pt_val h he) fun σ H Q ⟨O, H0, ow, st, z, st', rel, ok, e, q⟩ => ⟨O, H0, ow, st, z, st', rel, ok, e, fun v H1 k1 o1 r1 => ?_⟩
  cases r1
  exact ⟨z, rfl, q H1 k1 o1⟩
theorem t_not {m : M Bool} (h : TJ X R Γ a m) : TJ X R Γ (.UnaryOp .Not a pos) (bindM m fun b => pureM (!b)) := by
  refine PT.weak (pt_not h) fun σ H Q ⟨O, H0, ow, st, z, st', rel, ok, e, q⟩ => ?_
  obtain ⟨x, s1, e1, e2⟩ := bind_some e
  obtain ⟨rfl, rfl⟩ := pure_some e2
  exact ⟨O, H0, ow, st, x, s1, rel, ok, e1, q⟩
abbrev WJ (X : Cx) (R : Res) (Γ : List Slot) (e : Expr) (m : M Bool) : Prop := PW X e (tT R Γ m)
theorem w_t {m : M Bool} (h : WJ X R Γ e m) : TJ X R Γ e m := h.pt
theorem w_and1 {m : M Bool} (h : TJ X R Γ a m) : WJ X R Γ (.BoolOp .And [a] pos) m := pw_and1 h
theorem w_or1 {m : M Bool} (h : TJ X R Γ a m) : WJ X R Γ (.BoolOp .Or [a] pos) m := pw_or1 h
theorem w_and {rest : List Expr} {ma mb : M Bool} (ha : TJ X R Γ a ma) (hb : WJ X R Γ (.BoolOp .And (b :: rest) pos) mb) : WJ X R Γ (.BoolOp .And (a :: b :: rest) pos) (bindM ma fun x => if x then mb else pureM false) := by
  refine PW.weak (pw_and ha hb) fun σ H Q ⟨O, H0, ow, st, z, st', rel, ok, e, q⟩ => ?_
  obtain ⟨x, s1, e1, e2⟩ := bind_some e
  refine ⟨O, H0, ow, st, x, s1, rel, ok, e1, fun H1 k1 o1 => ?_⟩
  cases x with
  | true => exact ⟨O, H0, ow, s1, z, st', rel.grow k1 (okZ o1), o1, e2, fun H2 k2 o2 => q H2 (k1.trans k2) o2⟩
  | false =>
    obtain ⟨rfl, rfl⟩ := pure_some (show pureM false s1 = some (z, st') from e2)
    exact q H1 k1 o1
theorem w_or {rest : List Expr} {ma mb : M Bool} (ha : TJ X R Γ a ma) (hb : WJ X R Γ (.BoolOp .Or (b :: rest) pos) mb) : WJ X R Γ (.BoolOp .Or (a :: b :: rest) pos) (bindM ma fun x => if x then pureM true else mb) := by
  refine PW.weak (pw_or ha hb) fun σ H Q ⟨O, H0, ow, st, z, st', rel, ok, e, q⟩ => ?_
  obtain ⟨x, s1, e1, e2⟩ := bind_some e
  refine ⟨O, H0, ow, st, x, s1, rel, ok, e1, fun H1 k1 o1 => ?_⟩
  cases x with
  | false => exact ⟨O, H0, ow, s1, z, st', rel.grow k1 (okZ o1), o1, e2, fun H2 k2 o2 => q H2 (k1.trans k2) o2⟩
  | true =>
    obtain ⟨rfl, rfl⟩ := pure_some (show pureM true s1 = some (z, st') from e2)
    exact q H1 k1 o1
/-- .. as values -/
theorem e_one1 {op} {m : M Bool} (h : EJ X R Γ a eBool m) : EJ X R Γ (.BoolOp op [a] pos) eBool m := pe_one h
theorem e_and {rest : List Expr} {ma mb : M Bool} (ha : EJ X R Γ a eBool ma) (hb : EJ X R Γ (.BoolOp .And (b :: rest) pos) eBool mb) : EJ X R Γ (.BoolOp .And (a :: b :: rest) pos) eBool (bindM ma fun x => if x then mb else pureM false) := by
  refine PE.weak (pe_and ha hb) fun σ H Q ⟨O, H0, ow, st, z, st', rel, ok, e, q⟩ => ?_
  obtain ⟨x, s1, e1, e2⟩ := bind_some e
  refine ⟨O, H0, ow, st, x, s1, rel, ok, e1, fun v H1 k1 o1 r1 => ?_⟩
  cases r1
  refine ⟨x, rfl, ?_⟩
  cases x with
  | true => exact ⟨O, H0, ow, s1, z, st', rel.grow k1 (okZ o1), o1, e2, fun v H2 k2 o2 r => q v H2 (k1.trans k2) o2 r⟩
  | false =>
    obtain ⟨rfl, rfl⟩ := pure_some (show pureM false s1 = some (z, st') from e2)
    exact q _ H1 k1 o1 (.bl false)
theorem e_or {rest : List Expr} {ma mb : M Bool} (ha : EJ X R Γ a eBool ma) (hb : EJ X R Γ (.BoolOp .Or (b :: rest) pos) eBool mb) : EJ X R Γ (.BoolOp .Or (a :: b :: rest) pos) eBool (bindM ma fun x => if x then pureM true else mb) := by
  refine PE.weak (pe_or ha hb) fun σ H Q ⟨O, H0, ow, st, z, st', rel, ok, e, q⟩ => ?_
  obtain ⟨x, s1, e1, e2⟩ := bind_some e
  refine ⟨O, H0, ow, st, x, s1, rel, ok, e1, fun v H1 k1 o1 r1 => ?_⟩
  cases r1
  refine ⟨x, rfl, ?_⟩
  cases x with
  | false => exact ⟨O, H0, ow, s1, z, st', rel.grow k1 (okZ o1), o1, e2, fun v H2 k2 o2 r => q v H2 (k1.trans k2) o2 r⟩
  | true =>
    obtain ⟨rfl, rfl⟩ := pure_some (show pureM true s1 = some (z, st') from e2)
    exact q _ H1 k1 o1 (.bl true)
theorem e_not {m : M Bool} (h : EJ X R Γ a eBool m) : EJ X R Γ (.UnaryOp .Not a pos) eBool (bindM m fun b => pureM (!b)) := by
  refine PE.weak (pe_not h) fun σ H Q ⟨O, H0, ow, st, z, st', rel, ok, e, q⟩ => ?_
  obtain ⟨x, s1, e1, e2⟩ := bind_some e
  obtain ⟨rfl, rfl⟩ := pure_some e2
  exact ⟨O, H0, ow, st, x, s1, rel, ok, e1, fun v H1 k1 o1 r1 => by cases r1; exact ⟨x, rfl, q _ H1 k1 o1 (.bl _)⟩⟩
theorem e_if {mc : M Bool} {ma mb : M α} (hc : TJ X R Γ c mc) (ha : EJ X R Γ a ea ma) (hb : EJ X R Γ b ea mb) : EJ X R Γ (.IfExp c a b pos) ea (bindM mc fun x => if x then ma else mb) := by
  refine PE.weak (pe_ifExp hc ha hb) fun σ H Q ⟨O, H0, ow, st, z, st', rel, ok, e, q⟩ => ?_
  obtain ⟨x, s1, e1, e2⟩ := bind_some e
  refine ⟨O, H0, ow, st, x, s1, rel, ok, e1, fun H1 k1 o1 => ?_⟩
  cases x with
  | true => exact ⟨O, H0, ow, s1, z, st', rel.grow k1 (okZ o1), o1, e2, fun v H2 k2 o2 r => q v H2 (k1.trans k2) o2 r⟩
  | false => exact ⟨O, H0, ow, s1, z, st', rel.grow k1 (okZ o1), o1, e2, fun v H2 k2 o2 r => q v H2 (k1.trans k2) o2 r⟩
theorem f_if {mc : M Bool} {ma mb : M (List α)} (hc : TJ X R Γ c mc) (ha : EF X R Γ a ea ma) (hb : EF X R Γ b ea mb) : EF X R Γ (.IfExp c a b pos) ea (bindM mc fun x => if x then ma else mb) := by
  refine PE.weak (pe_ifExp hc ha hb) fun σ H Q ⟨O, H0, ow, st, z, st', rel, ok, e, q⟩ => ?_
  obtain ⟨x, s1, e1, e2⟩ := bind_some e
  refine ⟨O, H0, ow, st, x, s1, rel, ok, e1, fun H1 k1 o1 => ?_⟩
  cases x with
  | true => exact ⟨O, H0, ow, s1, z, st', rel.grow k1 (okZ o1), o1, e2, fun p vs H2 n k2 o2 e r => q p vs H2 (noneK k1 o1 n) (k1.trans k2) o2 e r⟩
  | false => exact ⟨O, H0, ow, s1, z, st', rel.grow k1 (okZ o1), o1, e2, fun p vs H2 n k2 o2 e r => q p vs H2 (noneK k1 o1 n) (k1.trans k2) o2 e r⟩
end
end Pz

namespace Pz
open PySem PySem.Spec PyProof.Rows L2

/-! ### what is forgotten, what is frozen -/
inductive Low : List Slot → List Slot → Prop
  | nil : Low [] []
  | un {s : Slot} {l r : List Slot} : Low l r → Low (s :: l) (.un :: r)
  | eq {s : Slot} {l r : List Slot} : Low l r → Low (s :: l) (s :: r)
  | fr {d : PyData} {l r : List Slot} : Low l r → Low (.ow d :: l) (.fz d :: r)
theorem Low.refl : ∀ Γ, Low Γ Γ
  | [] => .nil
  | _ :: r => .eq (Low.refl r)
theorem Low.at {Γ Γ' : List Slot} (h : Low Γ Γ') : ∀ i : Nat, (Γ[i]? = none ∧ Γ'[i]? = none) ∨ ∃ s, Γ[i]? = some s ∧ (Γ'[i]? = some .un ∨ Γ'[i]? = some s ∨ ∃ d, s = .ow d ∧ Γ'[i]? = some (.fz d)) := by
  induction h with
  | nil => intro i; exact .inl ⟨rfl, rfl⟩
  | un _ ih => intro i; cases i with
    | zero => exact .inr ⟨_, rfl, .inl rfl⟩
    | succ i => exact ih i
  | eq _ ih => intro i; cases i with
    | zero => exact .inr ⟨_, rfl, .inr (.inl rfl)⟩
    | succ i => exact ih i
  | fr _ ih => intro i; cases i with
    | zero => exact .inr ⟨_, rfl, .inr (.inr ⟨_, rfl, rfl⟩)⟩
    | succ i => exact ih i
theorem Low.length {Γ Γ' : List Slot} (h : Low Γ Γ') : Γ.length = Γ'.length := by induction h <;> simp_all
theorem Low.ow {Γ Γ' : List Slot} (h : Low Γ Γ') {i : Nat} {d : PyData} (e : Γ'[i]? = some (.ow d)) : Γ[i]? = some (.ow d) := by
  rcases h.at i with ⟨_, e2⟩ | ⟨s, e1, e2 | e2 | ⟨d', _, e2⟩⟩
  · rw [e] at e2; cases e2
  · rw [e] at e2; cases e2
  · rw [e] at e2; cases e2; exact e1
  · rw [e] at e2; cases e2
theorem Low.avo {O : Av} {ow : Nat → Addr} {Γ Γ' : List Slot} (h : Low Γ Γ') : ∀ a, avo O Γ' ow a → avo O Γ ow a := fun a z => by
  rcases z with z | ⟨i, d, e, q⟩
  · exact .inl z
  · exact .inr ⟨i, d, h.ow e, q⟩
theorem Rel.low {R : Res} {O : Av} {H0 H : Hp} {ow : Nat → Addr} {Γ Γ' : List Slot} {σ : L2.St} (r : Rel R O H0 ow Γ σ H) (h : Low Γ Γ') : Rel R O H0 ow Γ' σ H where
  len := h.length ▸ r.len
  hfz := fun i d e => by
    rcases h.at i with ⟨_, e2⟩ | ⟨s, e1, e2 | e2 | ⟨d', rfl, e2⟩⟩
    · rw [e] at e2; cases e2
    · rw [e] at e2; cases e2
    · rw [e] at e2; cases e2
      obtain ⟨v, a, b⟩ := r.hfz i d e1
      exact ⟨v, a, b.less h.avo⟩
    · rw [e] at e2; cases e2
      obtain ⟨a, b, c, f⟩ := r.how i d e1
      refine ⟨_, a, ?_⟩
      cases d with
      | list ds =>
        obtain ⟨vs, q1, q2⟩ := b
        refine .lst (fun z => ?_) q1 (q2.less h.avo)
        rcases z with z | ⟨j, d', e3, q⟩
        · exact c z
        · have := r.hinj j i _ _ (h.ow e3) e1 q
          subst this
          rw [e] at e3; cases e3
      | _ => exact b.elim
  how := fun i d e => let ⟨a, b, c, f⟩ := r.how i d (h.ow e); ⟨a, by
    cases d with
    | list ds => obtain ⟨vs, q1, q2⟩ := b; exact ⟨vs, q1, q2.less h.avo⟩
    | _ => exact b.elim, c, f⟩
  hsrc := fun i e => by
    rcases h.at i with ⟨_, e2⟩ | ⟨s, e1, e2 | e2 | ⟨d', rfl, e2⟩⟩
    · rw [e] at e2; cases e2
    · rw [e] at e2; cases e2
    · rw [e] at e2; cases e2; exact r.hsrc i e1
    · rw [e] at e2; cases e2
  hinj := fun i j d d' e1 e2 => r.hinj i j d d' (h.ow e1) (h.ow e2)
  same := r.same
  zsub := r.zsub
  odom := r.odom

/-! ### steps one behind the other -/
section
variable {R : Res} {O : Av} {H0 H H1 H2 : Hp} {ow ow1 ow2 : Nat → Addr} {Γ Γ1 Γ2 : List Slot} {σ : L2.St}
theorem Step.refl : Step O Γ ow H Γ ow H := ⟨Keep.refl H, fun i d e => .inl (.inr ⟨i, d, e, rfl⟩)⟩
theorem Step.trans (a : Step O Γ ow H Γ1 ow1 H1) (b : Step O Γ1 ow1 H1 Γ2 ow2 H2) : Step O Γ ow H Γ2 ow2 H2 where
  keep := fun x o n e => b.keep x o (fun z => by
    rcases z with z | ⟨i, d, e1, q⟩
    · exact n (.inl z)
    · subst q
      rcases a.sub i d e1 with z | z
      · exact n z
      · rw [e] at z; cases z) (a.keep x o n e)
  sub := fun i d e => by
    rcases b.sub i d e with z | z
    · rcases z with z | ⟨j, d', e1, q⟩
      · exact .inl (.inl z)
      · rw [← q]; exact a.sub j d' e1
    · by_cases n : avo O Γ ow (ow2 i)
      · exact .inl n
      · cases e1 : H (ow2 i) with
        | none => exact .inr rfl
        | some o => rw [a.keep _ o n e1] at z; cases z
/-- ahead of the step the heap grew -/
theorem Step.pre (k : Keep (avo O Γ ow) H H1) (b : Step O Γ ow H1 Γ2 ow2 H2) : Step O Γ ow H Γ2 ow2 H2 where
  keep := k.trans b.keep
  sub := fun i d e => by
    rcases b.sub i d e with z | z
    · exact .inl z
    · by_cases n : avo O Γ ow (ow2 i)
      · exact .inl n
      · cases e1 : H (ow2 i) with
        | none => exact .inr rfl
        | some o => rw [k _ o n e1] at z; cases z
theorem Step.low (h : Low Γ Γ1) (b : Step O Γ1 ow H Γ2 ow2 H2) : Step O Γ ow H Γ2 ow2 H2 where
  keep := b.keep.mono h.avo
  sub := fun i d e => by
    rcases b.sub i d e with z | z
    · exact .inl (h.avo _ z)
    · exact .inr z
theorem Step.lowR (h : Low Γ1 Γ2) (b : Step O Γ ow H Γ1 ow1 H1) : Step O Γ ow H Γ2 ow1 H1 where
  keep := b.keep
  sub := fun i d e => b.sub i d (h.ow e)
end

abbrev QJ {κ : Type} (X : Cx) (R : Res) (Γ : List Slot) (st : Stmt) (out : κ → OutD) (m : M κ) : Prop := PS X st (tS R Γ out m)
section
variable {α β γ κ ρ : Type} {ea : α → PyData} {ec : γ → PyData} {er : ρ → PyData} {X : Cx} {R : Res} {Γ Γ' : List Slot} {e c : Expr} {st : Stmt} {rest A B : List Stmt} {pos : Pos} {out : κ → OutD}

/-! ### blocks -/
theorem s_nil {k : κ} (hk : out k = .nx Γ') (h : Low Γ Γ') : SJ X R Γ [] out (pureM k) := by
  refine PSs.weak pss_nil fun D σ H ⟨O, H0, ow, st, z, st', rel, ok, e, q⟩ => ?_
  obtain ⟨rfl, rfl⟩ := pure_some e
  rw [hk] at q
  exact q ow σ H (rel.low h) ok (Step.refl.lowR h)
theorem s_low {m : M κ} (h : Low Γ Γ') (hs : SJ X R Γ' rest out m) : SJ X R Γ rest out m := by
  refine PSs.weak hs fun D σ H ⟨O, H0, ow, st, z, st', rel, ok, e, q⟩ => ⟨O, H0, ow, st, z, st', rel.low h, ok, e, ?_⟩
  revert q
  cases out z with
  | nx Γ2 => exact fun q ow' σ' H' a b c => q ow' σ' H' a b (c.low h)
  | rt d => exact fun q => q
theorem s_eq {m m' : M κ} (h : SJ X R Γ rest out m) (hm : m' = m) : SJ X R Γ rest out m' := hm ▸ h
theorem s_step {Γ1 : β → List Slot} {m1 : M β} {k : β → M κ} (h1 : QJ X R Γ st (fun b => .nx (Γ1 b)) m1) (h2 : ∀ b, SJ X R (Γ1 b) rest out (k b)) : SJ X R Γ (st :: rest) out (bindM m1 k) := by
  refine PSs.weak (pss_cons h1 (PSs.ex h2)) fun D σ H ⟨O, H0, ow, st, z, st', rel, ok, e, q⟩ => ?_
  obtain ⟨b, s1, e1, e2⟩ := bind_some e
  refine ⟨O, H0, ow, st, b, s1, rel, ok, e1, fun ow1 σ1 H1 r1 o1 p1 => ?_⟩
  refine ⟨b, O, H0, ow1, s1, z, st', r1, o1, e2, ?_⟩
  revert q
  cases out z with
  | nx Γ2 => exact fun q ow' σ' H' a b c => q ow' σ' H' a b (p1.trans c)
  | rt d => exact fun q => q
/-- a step that may return -/
def outO {ρ β : Type} (er : ρ → PyData) (Γ1 : β → List Slot) : Out ρ β → OutD
  | .nx b => .nx (Γ1 b)
  | .rt r => .rt (er r)
theorem s_stepO {Γ1 : β → List Slot} {m1 : M (Out ρ β)} {k : β → M κ} (f : ρ → κ) (h1 : QJ X R Γ st (outO er Γ1) m1) (h2 : ∀ b, SJ X R (Γ1 b) rest out (k b)) (hf : ∀ r, out (f r) = .rt (er r) := by intro _; rfl) :
    SJ X R Γ (st :: rest) out (bindM m1 fun o => match o with | .nx b => k b | .rt r => pureM (f r)) := by
  refine PSs.weak (pss_cons h1 (PSs.ex h2)) fun D σ H ⟨O, H0, ow, st, z, st', rel, ok, e, q⟩ => ?_
  obtain ⟨b, s1, e1, e2⟩ := bind_some e
  refine ⟨O, H0, ow, st, b, s1, rel, ok, e1, ?_⟩
  cases b with
  | nx b =>
    refine fun ow1 σ1 H1 r1 o1 p1 => ⟨b, O, H0, ow1, s1, z, st', r1, o1, e2, ?_⟩
    revert q
    cases out z with
    | nx Γ2 => exact fun q ow' σ' H' a b c => q ow' σ' H' a b (p1.trans c)
    | rt d => exact fun q => q
  | rt r =>
    obtain ⟨rfl, rfl⟩ := pure_some (show pureM (f r) s1 = some (z, st') from e2)
    rw [hf] at q
    exact q
theorem s_ret {enc : α → PyData} {m : M α} (f : α → κ) (he : EJ X R Γ e enc m) (hf : ∀ r, out (f r) = .rt (enc r) := by intro _; rfl) : SJ X R Γ (.Return (some e) pos :: rest) out (bindM m fun r => pureM (f r)) := by
  have h : PS X (.Return (some e) pos) _ := ps_ret he
  have h2 : PSs X (.Return (some e) pos :: rest) (tRet (tE R Γ enc m)) := by
    refine ⟨fun pins s σ H D I h' => ?_⟩
    refine wpAny_execs_cons (thn (h.run pins s σ H { D with nx := fun _ _ => False, bk := fun _ _ => False, ct := fun _ _ => False } I h') fun f s1 q => ?_)
    cases f with
    | next => exact q.elim fun _ ⟨_, _, z⟩ => z.elim
    | ret v => exact q
    | brk => exact q.elim fun _ ⟨_, _, z⟩ => z.elim
    | cont => exact q.elim fun _ ⟨_, _, z⟩ => z.elim
  refine PSs.weak h2 fun D σ H ⟨O, H0, ow, st, z, st', rel, ok, e, q⟩ => ?_
  obtain ⟨r, s1, e1, e2⟩ := bind_some e
  obtain ⟨rfl, rfl⟩ := pure_some e2
  rw [hf] at q
  exact ⟨O, H0, ow, st, r, s1, rel, ok, e1, fun v H' k o rp => q v H' (rel.same.trans k) o (rp.less fun a z => .inl z)⟩
/-- if c: .. that always returns -/
theorem s_ifret {outA : ρ → OutD} {mc : M Bool} {mA : M ρ} {mR : M κ} (f : ρ → κ) (hc : TJ X R Γ c mc) (hA : SJ X R Γ A outA mA) (hr : ∀ r, ∃ d, outA r = .rt d) (hf : ∀ r, out (f r) = outA r) (hR : SJ X R Γ rest out mR) :
    SJ X R Γ (.If c A [] pos :: rest) out (bindM mc fun k => if k then bindM mA (fun r => pureM (f r)) else mR) := by
  refine PSs.weak (pss_cons (ps_if hc hA pss_nil) hR) fun D σ H ⟨O, H0, ow, st, z, st', rel, ok, e, q⟩ => ?_
  obtain ⟨b, s1, e1, e2⟩ := bind_some e
  refine ⟨O, H0, ow, st, b, s1, rel, ok, e1, fun H1 k1 o1 => ?_⟩
  cases b with
  | true =>
    obtain ⟨r, s2, e3, e4⟩ := bind_some (show bindM mA (fun r => pureM (f r)) s1 = some (z, st') from e2)
    obtain ⟨rfl, rfl⟩ := pure_some e4
    refine ⟨O, H0, ow, s1, r, s2, rel.grow k1 (okZ o1), o1, e3, ?_⟩
    obtain ⟨d, hd⟩ := hr r
    rw [hf r] at q
    rw [hd] at q ⊢
    exact q
  | false =>
    refine ⟨O, H0, ow, s1, z, st', rel.grow k1 (okZ o1), o1, e2, ?_⟩
    revert q
    cases out z with
    | nx Γ2 => exact fun q ow' σ' H' a b c => q ow' σ' H' a b (c.pre (rel.keepA k1))
    | rt d => exact fun q => q
theorem s_ifret1 {mc : M Bool} {mA mR : M ρ} (hc : TJ X R Γ c mc) (hA : SJ X R Γ A (fun r => .rt (er r)) mA) (hR : SJ X R Γ rest (fun r => .rt (er r)) mR) :
    SJ X R Γ (.If c A [] pos :: rest) (fun r => .rt (er r)) (bindM mc fun k => if k then mA else mR) := by
  have := s_ifret (pos := pos) (out := fun r => .rt (er r)) (f := id) hc hA (fun r => ⟨_, rfl⟩) (fun _ => rfl) hR
  simpa using this
/-- an if that ends a block -/
theorem s_ifend {mc : M Bool} {mA mB : M κ} (hc : TJ X R Γ c mc) (hA : SJ X R Γ A out mA) (hB : SJ X R Γ B out mB) : SJ X R Γ [.If c A B pos] out (bindM mc fun k => if k then mA else mB) := by
  refine PSs.weak (pss_one (ps_if hc hA hB)) fun D σ H ⟨O, H0, ow, st, z, st', rel, ok, e, q⟩ => ?_
  obtain ⟨b, s1, e1, e2⟩ := bind_some e
  refine ⟨O, H0, ow, st, b, s1, rel, ok, e1, fun H1 k1 o1 => ?_⟩
  have q' : ∀ x, x = out z → (match x with
    | .nx Γ' => ∀ ow' σ' H', Rel R O H0 ow' Γ' σ' H' → okR R st' H' → Step O Γ ow H1 Γ' ow' H' → D.nx σ' H'
    | .rt d => ∀ v H', Keep (Zr R) H0 H' → okR R st' H' → Rp O H' v d → D.rt v H') := by
    rintro x rfl
    revert q
    cases out z with
    | nx Γ2 => exact fun q ow' σ' H' a b c => q ow' σ' H' a b (c.pre (rel.keepA k1))
    | rt d => exact fun q => q
  cases b with
  | true => exact ⟨O, H0, ow, s1, z, st', rel.grow k1 (okZ o1), o1, e2, q' _ rfl⟩
  | false => exact ⟨O, H0, ow, s1, z, st', rel.grow k1 (okZ o1), o1, e2, q' _ rfl⟩
theorem q_if {mc : M Bool} {mA mB : M κ} (hc : TJ X R Γ c mc) (hA : SJ X R Γ A out mA) (hB : SJ X R Γ B out mB) : QJ X R Γ (.If c A B pos) out (bindM mc fun k => if k then mA else mB) := by
  refine PS.weak (ps_if hc hA hB) fun D σ H ⟨O, H0, ow, st, z, st', rel, ok, e, q⟩ => ?_
  obtain ⟨b, s1, e1, e2⟩ := bind_some e
  refine ⟨O, H0, ow, st, b, s1, rel, ok, e1, fun H1 k1 o1 => ?_⟩
  have q' : ∀ x, x = out z → (match x with
    | .nx Γ' => ∀ ow' σ' H', Rel R O H0 ow' Γ' σ' H' → okR R st' H' → Step O Γ ow H1 Γ' ow' H' → D.nx σ' H'
    | .rt d => ∀ v H', Keep (Zr R) H0 H' → okR R st' H' → Rp O H' v d → D.rt v H') := by
    rintro x rfl
    revert q
    cases out z with
    | nx Γ2 => exact fun q ow' σ' H' a b c => q ow' σ' H' a b (c.pre (rel.keepA k1))
    | rt d => exact fun q => q
  cases b with
  | true => exact ⟨O, H0, ow, s1, z, st', rel.grow k1 (okZ o1), o1, e2, q' _ rfl⟩
  | false => exact ⟨O, H0, ow, s1, z, st', rel.grow k1 (okZ o1), o1, e2, q' _ rfl⟩

/-! ### slots set -/
theorem Rel.setFz {O : Av} {H0 H : Hp} {ow : Nat → Addr} {σ : L2.St} (r : Rel R O H0 ow Γ σ H) (i : Nat) {v : V} {d : PyData} (rp : Rp (Pz.avo O Γ ow) H v d) : Rel R O H0 ow (Γ.set i (.fz d)) (σ.set i (some v)) H := by
  have sub : ∀ (j : Nat) (d' : PyData), (Γ.set i (.fz d))[j]? = some (.ow d') → j ≠ i ∧ Γ[j]? = some (.ow d') := fun j d' e => by
    by_cases h : i = j
    · subst h
      rw [List.getElem?_set_self'] at e
      cases h : Γ[i]? <;> rw [h] at e <;> cases e
    · rw [List.getElem?_set_ne h] at e; exact ⟨fun z => h z.symm, e⟩
  have less : ∀ a, Pz.avo O (Γ.set i (.fz d)) ow a → Pz.avo O Γ ow a := fun a z => by
    rcases z with z | ⟨j, d', e, q⟩
    · exact .inl z
    · exact .inr ⟨j, d', (sub j d' e).2, q⟩
  refine ⟨by rw [List.length_set, List.length_set]; exact r.len, fun j d' e => ?_, fun j d' e => ?_, fun j e => ?_, fun j k d1 d2 e1 e2 => r.hinj j k d1 d2 (sub _ _ e1).2 (sub _ _ e2).2, r.same, r.zsub, r.odom⟩
  · by_cases h : i = j
    · subst h
      rw [List.getElem?_set_self'] at e
      cases h : Γ[i]? with
      | none => rw [h] at e; cases e
      | some s =>
        rw [h] at e
        have e' : d = d' := by cases e; rfl
        subst e'
        have hl : i < σ.length := by rw [← r.len]; exact (List.getElem?_eq_some_iff.mp h).1
        exact ⟨v, List.getElem?_set_self hl, rp.less less⟩
    · rw [List.getElem?_set_ne h] at e
      obtain ⟨w, a, b⟩ := r.hfz j d' e
      exact ⟨w, by rw [List.getElem?_set_ne h]; exact a, b.less less⟩
  · obtain ⟨n, e⟩ := sub j d' e
    obtain ⟨a, b, c, f⟩ := r.how j d' e
    refine ⟨by rw [List.getElem?_set_ne fun z => n z.symm]; exact a, ?_, c, f⟩
    cases d' with
    | list ds => obtain ⟨vs, q1, q2⟩ := b; exact ⟨vs, q1, q2.less less⟩
    | _ => exact b.elim
  · by_cases h : i = j
    · subst h
      rw [List.getElem?_set_self'] at e
      cases h : Γ[i]? <;> rw [h] at e <;> cases e
    · rw [List.getElem?_set_ne h] at e
      obtain ⟨a, c, e1, e2⟩ := r.hsrc j e
      exact ⟨a, c, e1, by rw [List.getElem?_set_ne h]; exact e2⟩
theorem Step.setFz {O : Av} {H H' : Hp} {ow : Nat → Addr} (i : Nat) (d : PyData) (k : Keep (Pz.avo O Γ ow) H H') : Step O Γ ow H (Γ.set i (.fz d)) ow H' := ⟨k, fun j d' e => by
  by_cases h : i = j
  · subst h
    rw [List.getElem?_set_self'] at e
    cases h : Γ[i]? <;> rw [h] at e <;> cases e
  · rw [List.getElem?_set_ne h] at e; exact .inl (.inr ⟨j, d', e, rfl⟩)⟩
theorem q_set (i : Nat) {x : Str} {pos' : Pos} {enc : α → PyData} {m : M α} (he : EJ X R Γ e enc m) (hN : X.N.Nodup) (hi : X.N[i]? = some x := by rfl) (hx : Loc X.env.scope x := by first | exact Or.inl rfl | exact Or.inr rfl)
    (hs : swapsWith e (some (.Name x pos')) pos.line X.env = pure false := by rfl) (hf : X.fn x = true ∨ X.env.scope.names.lookup x = some .local := by first | exact .inl rfl | exact .inr rfl) :
    QJ X R Γ (.Assign [.Name x pos'] e pos) (fun r => .nx (Γ.set i (.fz (enc r)))) m := by
  refine PS.weak (ps_set hN hi hx he hs hf) fun D σ H ⟨O, H0, ow, st, z, st', rel, ok, e, q⟩ => ⟨O, H0, ow, st, z, st', rel, ok, e, fun v H' k o rp => ?_⟩
  exact q ow _ H' ((rel.grow k (okZ o)).setFz i rp) o (Step.setFz i _ (rel.keepA k))

/-- a new list at a slot -/
theorem Rel.setOw {O : Av} {H0 H H' : Hp} {ow : Nat → Addr} {σ : L2.St} (r : Rel R O H0 ow Γ σ H) (i : Nat) {p : Addr} {ds : List PyData} {vs : List V} (n : H p = none) (k : Keep (Zr R) H H') (z : ∀ a, Zr R a → H' a ≠ none) (hp : H' p = some (.lst vs)) (rp : RpAll (avp (Pz.avo O Γ ow) p) H' vs ds) :
    Rel R O H0 (fun j => if j = i then p else ow j) (Γ.set i (.ow (.list ds))) (σ.set i (some (.ref p))) H' ∧ Step O Γ ow H (Γ.set i (.ow (.list ds))) (fun j => if j = i then p else ow j) H' := by
  have r' := r.grow k z
  have n1 : ¬ Pz.avo O Γ ow p := r.ad.fresh n
  have n0 : H0 p = none := by
    cases h : H0 p with
    | none => rfl
    | some u =>
      by_cases z1 : Zr R p
      · exact absurd (r.zavo z1) n1
      · rw [r.same p u z1 h] at n; cases n
  have sub : ∀ (j : Nat) (d' : PyData), (Γ.set i (.ow (.list ds)))[j]? = some (.ow d') → (j = i ∧ d' = .list ds ∧ i < Γ.length) ∨ (j ≠ i ∧ Γ[j]? = some (.ow d')) := fun j d' e => by
    by_cases h : i = j
    · subst h
      rw [List.getElem?_set_self'] at e
      cases h : Γ[i]? with
      | none => rw [h] at e; cases e
      | some s => rw [h] at e; refine .inl ⟨rfl, by cases e; rfl, (List.getElem?_eq_some_iff.mp h).1⟩
    · rw [List.getElem?_set_ne h] at e; exact .inr ⟨fun z => h z.symm, e⟩
  have less : ∀ a, Pz.avo O (Γ.set i (.ow (.list ds))) (fun j => if j = i then p else ow j) a → avp (Pz.avo O Γ ow) p a := fun a z => by
    rcases z with z | ⟨j, d', e, q⟩
    · exact .inl (.inl z)
    · rcases sub j d' e with ⟨rfl, _, _⟩ | ⟨n, e⟩
      · simp at q; exact .inr q.symm
      · simp [n] at q; exact .inl (.inr ⟨j, d', e, q⟩)
  have own' : ∀ (j : Nat) (d : PyData), Γ[j]? = some (.ow d) → ow j ≠ p := fun j d e z => n1 (.inr ⟨j, d, e, z⟩)
  have kA := r.keepA k
  refine ⟨⟨by rw [List.length_set, List.length_set]; exact r.len, fun j d' e => ?_, fun j d' e => ?_, fun j e => ?_, fun j k d1 d2 e1 e2 q => ?_, r'.same, r.zsub, r'.odom⟩, ⟨kA, fun j d' e => ?_⟩⟩
  · by_cases h : i = j
    · subst h
      rw [List.getElem?_set_self'] at e
      cases h : Γ[i]? <;> rw [h] at e <;> cases e
    · rw [List.getElem?_set_ne h] at e
      obtain ⟨w, a, b⟩ := r.hfz j d' e
      exact ⟨w, by rw [List.getElem?_set_ne h]; exact a, (b.at (p := p) n kA).less less⟩
  · rcases sub j d' e with ⟨rfl, rfl, hl⟩ | ⟨nj, e⟩
    · have hl' : j < σ.length := by rw [← r.len]; exact hl
      refine ⟨by simp [hl'], ⟨vs, by simp [hp], rp.less less⟩, by simp; exact fun z => n1 (.inl z), by simp [n0]⟩
    · obtain ⟨a, b, c, f⟩ := r.how j d' e
      simp only [nj, if_false]
      refine ⟨by rw [List.getElem?_set_ne fun z => nj z.symm]; exact a, ?_, c, f⟩
      cases d' with
      | list ds =>
        obtain ⟨vs, q1, q2⟩ := b
        exact ⟨vs, k _ _ (fun z => c (r.zsub _ z)) q1, (q2.at (p := p) n kA).less less⟩
      | _ => exact b.elim
  · by_cases h : i = j
    · subst h
      rw [List.getElem?_set_self'] at e
      cases h : Γ[i]? <;> rw [h] at e <;> cases e
    · rw [List.getElem?_set_ne h] at e
      obtain ⟨a, c, e1, e2⟩ := r.hsrc j e
      exact ⟨a, c, e1, by rw [List.getElem?_set_ne h]; exact e2⟩
  · rcases sub j d1 e1 with ⟨rfl, _, _⟩ | ⟨nj, f1⟩ <;> rcases sub k d2 e2 with ⟨rfl, _, _⟩ | ⟨nk, f2⟩
    · rfl
    · simp [nk] at q; exact absurd q.symm (own' k _ f2)
    · simp [nj] at q; exact absurd q (own' j _ f1)
    · simp [nj, nk] at q; exact r.hinj j k _ _ f1 f2 q
  · rcases sub j d' e with ⟨rfl, _, _⟩ | ⟨nj, e⟩
    · simp [n]
    · simp only [nj, if_false]; exact .inl (.inr ⟨j, d', e, rfl⟩)
theorem q_setF (i : Nat) {x : Str} {pos' : Pos} {m : M (List γ)} (he : EF X R Γ e ec m) (hN : X.N.Nodup) (hi : X.N[i]? = some x := by rfl) (hx : Loc X.env.scope x := by first | exact Or.inl rfl | exact Or.inr rfl)
    (hs : swapsWith e (some (.Name x pos')) pos.line X.env = pure false := by rfl) (hf : X.fn x = true ∨ X.env.scope.names.lookup x = some .local := by first | exact .inl rfl | exact .inr rfl) :
    QJ X R Γ (.Assign [.Name x pos'] e pos) (fun r => .nx (Γ.set i (.ow (eL ec r)))) m := by
  refine PS.weak (ps_set hN hi hx he hs hf) fun D σ H ⟨O, H0, ow, st, z, st', rel, ok, e, q⟩ => ⟨O, H0, ow, st, z, st', rel, ok, e, fun p vs H' n k o ep rp => ?_⟩
  obtain ⟨r1, s1⟩ := rel.setOw i n k (okZ o) ep rp
  exact q _ _ H' r1 o s1
end
end Pz

namespace Pz
open PySem PySem.Spec PyProof.Rows L2

section
variable {α β γ κ ρ ι : Type} {ea : α → PyData} {ec : γ → PyData} {er : ρ → PyData} {ei : ι → PyData} {X : Cx} {R : Res} {Γ Γ' : List Slot} {e c : Expr} {st : Stmt} {rest A B : List Stmt} {pos : Pos} {out : κ → OutD}
/-! ### own lists changed -/
theorem set_ow {Γ : List Slot} {i : Nat} {d d0 : PyData} (h : Γ[i]? = some (.ow d0)) {j : Nat} {d' : PyData} (e : (Γ.set i (.ow d))[j]? = some (.ow d')) : (j = i ∧ d' = d) ∨ (j ≠ i ∧ Γ[j]? = some (.ow d')) := by
  by_cases hj : i = j
  · subst hj
    rw [List.getElem?_set_self', h] at e
    cases e
    exact .inl ⟨rfl, rfl⟩
  · rw [List.getElem?_set_ne hj] at e; exact .inr ⟨fun z => hj z.symm, e⟩
theorem Rel.updOw {O : Av} {H0 H : Hp} {ow : Nat → Addr} {σ : L2.St} (r : Rel R O H0 ow Γ σ H) {i : Nat} {d0 : PyData} {ds : List PyData} {vs : List V} (h : Γ[i]? = some (.ow d0)) (rp : RpAll (Pz.avo O Γ ow) H vs ds) :
    Rel R O H0 ow (Γ.set i (.ow (.list ds))) σ (upd H (ow i) (.lst vs)) ∧ Step O Γ ow H (Γ.set i (.ow (.list ds))) ow (upd H (ow i) (.lst vs)) := by
  have av : ∀ a, Pz.avo O (Γ.set i (.ow (.list ds))) ow a → Pz.avo O Γ ow a := fun a z => by
    rcases z with z | ⟨j, d', e, q⟩
    · exact .inl z
    · rcases set_ow h e with ⟨rfl, _⟩ | ⟨_, e⟩
      · exact .inr ⟨j, d0, h, q⟩
      · exact .inr ⟨j, d', e, q⟩
  have k : Keep (Pz.avo O Γ ow) H (upd H (ow i) (.lst vs)) := fun a o n e => by
    rw [upd_ne (fun z => n (.inr ⟨i, d0, h, z.symm⟩))]; exact e
  obtain ⟨hs, _, nO, n0⟩ := r.how i d0 h
  refine ⟨⟨by rw [List.length_set]; exact r.len, fun j d' e => ?_, fun j d' e => ?_, fun j e => ?_, fun j k d1 d2 e1 e2 q => ?_, fun a o z e => ?_, r.zsub, fun a z => ?_⟩, ⟨k, fun j d' e => .inl ?_⟩⟩
  · by_cases hj : i = j
    · subst hj
      rw [List.getElem?_set_self', h] at e; cases e
    · rw [List.getElem?_set_ne hj] at e
      obtain ⟨w, a, b⟩ := r.hfz j d' e
      exact ⟨w, a, (b.keep k).less av⟩
  · rcases set_ow h e with ⟨rfl, rfl⟩ | ⟨nj, e⟩
    · exact ⟨hs, ⟨vs, upd_same, (rp.keep k).less av⟩, nO, n0⟩
    · obtain ⟨a, b, c, f⟩ := r.how j d' e
      refine ⟨a, ?_, c, f⟩
      cases d' with
      | list ds2 =>
        obtain ⟨vs2, q1, q2⟩ := b
        exact ⟨vs2, by rw [upd_ne (fun z => nj (r.hinj j i _ _ e h z))]; exact q1, (q2.keep k).less av⟩
      | _ => exact b.elim
  · by_cases hj : i = j
    · subst hj
      rw [List.getElem?_set_self', h] at e; cases e
    · rw [List.getElem?_set_ne hj] at e
      exact r.hsrc j e
  · rcases set_ow h e1 with ⟨rfl, _⟩ | ⟨_, f1⟩ <;> rcases set_ow h e2 with ⟨rfl, _⟩ | ⟨_, f2⟩
    · rfl
    · exact r.hinj _ _ _ _ h f2 q
    · exact r.hinj _ _ _ _ f1 h q
    · exact r.hinj _ _ _ _ f1 f2 q
  · have e1 := r.same a o z e
    rw [upd_ne (fun q => by rw [q, n0] at e; cases e)]; exact e1
  · by_cases q : a = ow i
    · rw [q]; simp [upd_same]
    · rw [upd_ne q]; exact r.odom a z
  · rcases set_ow h e with ⟨rfl, _⟩ | ⟨_, e⟩
    · exact .inr ⟨j, d0, h, rfl⟩
    · exact .inr ⟨j, d', e, rfl⟩
/-- the draws don't stand in what is owned -/
theorem Rel.okUpd {O : Av} {H0 H : Hp} {ow : Nat → Addr} {σ : L2.St} {u : Src} (r : Rel R O H0 ow Γ σ H) (ok : okR R u H) {i : Nat} {d0 : PyData} {o : HO} (h : Γ[i]? = some (.ow d0)) : okR R u (upd H (ow i) o) :=
  ok.keep fun a o' z e => by
    rw [upd_ne (fun q => (r.how i d0 h).2.2.1 (by rw [← q]; exact r.zsub a z))]; exact e
def appM {α : Type} (xs : List α) (x : α) : M (List α) := if xs.length < sizeLine then pureM (xs ++ [x]) else failM
def extM {α : Type} (xs ys : List α) : M (List α) := if xs.length + ys.length ≤ sizeLine then pureM (xs ++ ys) else failM
theorem if_some {α : Type} {c : Prop} [Decidable c] {a b : α} {s t : Src} (h : (if c then pureM a else failM) s = some (b, t)) : c ∧ a = b ∧ s = t := by
  by_cases hc : c
  · rw [if_pos hc] at h; exact ⟨hc, pure_some h⟩
  · rw [if_neg hc] at h; cases h
theorem tyL {K : PySem.W.Frag} {H : Hp} {p : Addr} {vs : List V} (h : H p = some (.lst vs)) : tyV K "list" (.ref p) H := Or.inl ⟨rfl, _, Or.inl (Or.inl h)⟩
theorem q_app (i : Nat) {x : Str} {p1 p2 p3 : Pos} (xs : List γ) {m : M γ} (he : EJ X R Γ e ec m) (hΓ : Γ[i]? = some (.ow (eL ec xs)) := by rfl) (hN : X.N[i]? = some x := by rfl)
    (hv : Vis X.env.scope x := by first | exact Or.inl rfl | exact Or.inr (Or.inl rfl) | exact Or.inr (Or.inr rfl))
    (hd : (x == ("__debug__" : Str)) = false := by decide) (hcd : (x == ("__classdict__" : Str)) = false := by decide)
    (hbase : attributeBase (.Name x p1) "append" X.env (eval (.Name x p1) X.env) = eval (.Name x p1) X.env := by rfl)
    (hfew : ((backTo p3 (starEach [e] X.env)).all (fun x => !x.1) && (backToKw p3 (keywordEach [] X.env)).all (fun x => x.1.isSome)
      && decide (([e] : List Expr).length + ([] : List Keyword).length + (if ([] : List Keyword).isEmpty then 0 else 1) < 30)) = true := by rfl)
    (hline : (p2.endLine == p3.line) = true := by rfl) (hs : starEach [e] X.env = (false, eval e X.env) :: starEach [] X.env := by rfl)
    (hsw : swapsWith (.Call (.Attribute (.Name x p1) "append" p2) [e] [] p3) none pos.line X.env = pure false := by rfl) :
    QJ X R Γ (.Expr (.Call (.Attribute (.Name x p1) "append" p2) [e] [] p3) pos) (fun b => .nx (Γ.set i (.ow (eL ec b)))) (bindM m fun y => appM xs y) := by
  refine PS.weak (ps_expr (pe_bm PySem.F.plainAttrs_list PySem.F.slot_list_append PySem.F.type_list_append mt_append (pe_var hN hv hd hcd) (pa_cons he pa_nil hs) hbase hfew hline hs rfl) hsw) fun D σ H ⟨O, H0, ow, st, z, st', rel, ok, e, q⟩ => ?_
  obtain ⟨y, s1, e1, e2⟩ := bind_some e
  obtain ⟨hl, rfl, rfl⟩ := if_some e2
  obtain ⟨hσ, ⟨vs, hp, rv⟩, nO, n0⟩ := rel.how i _ hΓ
  refine ⟨_, hσ, tyL hp, O, H0, ow, st, y, s1, rel, ok, e1, fun v H1 k o rp => ?_⟩
  have rel1 := rel.grow k (okZ o)
  have hp1 : H1 (ow i) = some (.lst vs) := k _ _ (fun z => nO (rel.zsub _ z)) hp
  refine ⟨ow i, vs, v, rfl, rfl, hp1, by rw [rv.length, List.length_map]; exact hl, ?_⟩
  have rv1 : RpAll (avo O Γ ow) H1 (vs ++ [v]) ((xs ++ [y]).map ec) := by
    rw [List.map_append]; exact (rv.keep (rel.keepA k)).append (.cons rp .nil)
  obtain ⟨r2, s2⟩ := rel1.updOw hΓ rv1
  exact q ow σ _ r2 (rel1.okUpd o hΓ) (s2.pre (rel.keepA k))
theorem q_ext (i : Nat) {x : Str} {p1 p2 p3 : Pos} (xs : List γ) {m : M (List γ)} (he : EJ X R Γ e (eL ec) m) (hΓ : Γ[i]? = some (.ow (eL ec xs)) := by rfl) (hN : X.N[i]? = some x := by rfl)
    (hv : Vis X.env.scope x := by first | exact Or.inl rfl | exact Or.inr (Or.inl rfl) | exact Or.inr (Or.inr rfl))
    (hd : (x == ("__debug__" : Str)) = false := by decide) (hcd : (x == ("__classdict__" : Str)) = false := by decide)
    (hbase : attributeBase (.Name x p1) "extend" X.env (eval (.Name x p1) X.env) = eval (.Name x p1) X.env := by rfl)
    (hfew : ((backTo p3 (starEach [e] X.env)).all (fun x => !x.1) && (backToKw p3 (keywordEach [] X.env)).all (fun x => x.1.isSome)
      && decide (([e] : List Expr).length + ([] : List Keyword).length + (if ([] : List Keyword).isEmpty then 0 else 1) < 30)) = true := by rfl)
    (hline : (p2.endLine == p3.line) = true := by rfl) (hs : starEach [e] X.env = (false, eval e X.env) :: starEach [] X.env := by rfl)
    (hsw : swapsWith (.Call (.Attribute (.Name x p1) "extend" p2) [e] [] p3) none pos.line X.env = pure false := by rfl) :
    QJ X R Γ (.Expr (.Call (.Attribute (.Name x p1) "extend" p2) [e] [] p3) pos) (fun b => .nx (Γ.set i (.ow (eL ec b)))) (bindM m fun y => extM xs y) := by
  refine PS.weak (ps_expr (pe_bm PySem.F.plainAttrs_list PySem.F.slot_list_extend PySem.F.type_list_extend mt_extend (pe_var hN hv hd hcd) (pa_cons he pa_nil hs) hbase hfew hline hs rfl) hsw) fun D σ H ⟨O, H0, ow, st, z, st', rel, ok, e, q⟩ => ?_
  obtain ⟨y, s1, e1, e2⟩ := bind_some e
  obtain ⟨hl, rfl, rfl⟩ := if_some e2
  obtain ⟨hσ, ⟨vs, hp, rv⟩, nO, n0⟩ := rel.how i _ hΓ
  refine ⟨_, hσ, tyL hp, O, H0, ow, st, y, s1, rel, ok, e1, fun v H1 k o rp => ?_⟩
  have rel1 := rel.grow k (okZ o)
  have hp1 : H1 (ow i) = some (.lst vs) := k _ _ (fun z => nO (rel.zsub _ z)) hp
  cases rp with
  | @lst b zs _ nb hb rb =>
    refine ⟨ow i, b, vs, zs, rfl, rfl, hp1, hb, by rw [rv.length, rb.length, List.length_map, List.length_map]; exact hl, ?_⟩
    have rv1 : RpAll (avo O Γ ow) H1 (vs ++ zs) ((xs ++ y).map ec) := by
      rw [List.map_append]; exact (rv.keep (rel.keepA k)).append rb
    obtain ⟨r2, s2⟩ := rel1.updOw hΓ rv1
    exact q ow σ _ r2 (rel1.okUpd o hΓ) (s2.pre (rel.keepA k))

/-! ### an own list is read: nothing of it goes on -/
mutual
def noL : PyData → Bool
  | .list _ => false
  | .dict _ => false
  | .tuple ds => noLs ds
  | _ => true
def noLs : List PyData → Bool
  | [] => true
  | d :: ds => noL d && noLs ds
end
mutual
theorem noL_rp {A A' : Av} {H : Hp} (ht : ∀ a xs, ¬ A a → H a = some (.tup xs) → ¬ A' a) : ∀ (d : PyData) (v : V), noL d = true → Rp A H v d → Rp A' H v d
  | .none, _, _, r => by cases r; exact .non
  | .bool b, _, _, r => by cases r; exact .bl b
  | .int i, _, _, r => by cases r; exact .int i
  | .str x, _, _, r => by cases r; exact .str x
  | .list _, _, h, _ => by simp [noL] at h
  | .tuple ds, _, h, r => by
    cases r with
    | tup h1 h2 h3 => exact .tup (ht _ _ h1 h2) h2 (noLs_rp ht ds _ (by simpa [noL] using h) h3)
  | .dict _, _, h, _ => by simp [noL] at h
theorem noLs_rp {A A' : Av} {H : Hp} (ht : ∀ a xs, ¬ A a → H a = some (.tup xs) → ¬ A' a) : ∀ (ds : List PyData) (vs : List V), noLs ds = true → RpAll A H vs ds → RpAll A' H vs ds
  | [], _, _, r => by cases r; exact .nil
  | d :: ds, _, h, r => by
    simp only [noLs, Bool.and_eq_true] at h
    cases r with
    | cons h1 h2 => exact .cons (noL_rp ht d _ h.1 h1) (noLs_rp ht ds _ h.2 h2)
end
def NL {α : Type} (e : α → PyData) : Prop := ∀ x, noL (e x) = true
theorem NL.int : NL eInt := fun _ => rfl
theorem NL.bool : NL eBool := fun _ => rfl
theorem NL.str : NL eStr := fun _ => rfl
theorem NL.non : NL eNon := fun _ => rfl
theorem NL.all {e : α → PyData} (h : NL e) : ∀ xs : List α, noLs (xs.map e) = true
  | [] => rfl
  | x :: xs => by simp [noLs, h x, NL.all h xs]
theorem NL.tup {e : α → PyData} (h : NL e) : NL (eT e) := fun xs => by simp [eT, noL, NL.all h xs]
theorem NL.opt {e : α → PyData} (h : NL e) : NL (eO e) := fun x => by cases x with
  | none => rfl
  | some x => exact h x
def NLs {α : Type} (f : α → List PyData) : Prop := ∀ x, noLs (f x) = true
theorem NLs.nil : NLs eU := fun _ => rfl
theorem NLs.cons {e : α → PyData} {f : β → List PyData} (h : NL e) (k : NLs f) : NLs (eC e f) := fun p => by simp [eC, noLs, h p.1, k p.2]
theorem NL.pr {f : α → List PyData} (h : NLs f) : NL (eP f) := fun p => by simp [eP, noL, h p]
theorem set_fz {Γ : List Slot} {i : Nat} {d d0 : PyData} (h : Γ[i]? = some (.ow d0)) {a : Addr} {O : Av} {ow : Nat → Addr} (z : avo O Γ ow a) : avo O (Γ.set i (.fz d)) ow a ∨ a = ow i := by
  rcases z with z | ⟨j, d', e, q⟩
  · exact .inl (.inl z)
  · by_cases hj : i = j
    · subst hj; exact .inr q.symm
    · exact .inl (.inr ⟨j, d', by rw [List.getElem?_set_ne hj]; exact e, q⟩)
theorem low_fr {Γ : List Slot} : ∀ {i : Nat} {d : PyData}, Γ[i]? = some (.ow d) → Low Γ (Γ.set i (.fz d)) := by
  induction Γ with
  | nil => intro i d h; simp at h
  | cons s r ih =>
    intro i d h
    cases i with
    | zero => simp at h; subst h; exact .fr (Low.refl r)
    | succ i => exact .eq (ih (by simpa using h))
/-- slot i, an own list, read in e; what comes out has no list in it -/
theorem e_borrow (i : Nat) {d : PyData} {enc : α → PyData} {m : M α} (h : EJ X R (Γ.set i (.fz d)) e enc m) (hn : NL enc) (hΓ : Γ[i]? = some (.ow d) := by rfl) : EJ X R Γ e enc m := by
  refine PE.weak h fun σ H Q ⟨O, H0, ow, st, z, st', rel, ok, e, q⟩ => ⟨O, H0, ow, st, z, st', rel.low (low_fr hΓ), ok, e, fun v H' k o rp => q v H' k o ?_⟩
  obtain ⟨_, hown, nO, _⟩ := rel.how i _ hΓ
  refine noL_rp (fun a xs na ha za => ?_) _ _ (hn z) rp
  rcases set_fz (d := d) hΓ za with z1 | z1
  · exact na z1
  · cases d with
    | list ds =>
      obtain ⟨vs, hp, _⟩ := hown
      have := k _ _ (fun z => nO (rel.zsub _ z)) hp
      rw [← z1, ha] at this; cases this
    | _ => exact hown.elim
theorem f_borrow (i : Nat) {d : PyData} {m : M (List α)} (h : EF X R (Γ.set i (.fz d)) e ea m) (hn : NL ea) (hΓ : Γ[i]? = some (.ow d) := by rfl) : EF X R Γ e ea m := by
  refine PE.weak h fun σ H Q ⟨O, H0, ow, st, z, st', rel, ok, e, q⟩ => ⟨O, H0, ow, st, z, st', rel.low (low_fr hΓ), ok, e, fun p vs H' n k o ep rp => q p vs H' n k o ep ?_⟩
  obtain ⟨_, hown, nO, _⟩ := rel.how i _ hΓ
  refine noLs_rp (fun a xs na ha za => ?_) _ _ (NL.all hn z) rp
  rcases za with za | za
  · rcases set_fz (d := d) hΓ za with z1 | z1
    · exact na (.inl z1)
    · cases d with
      | list ds =>
        obtain ⟨vs, hp, _⟩ := hown
        have := k _ _ (fun z => nO (rel.zsub _ z)) hp
        rw [← z1, ha] at this; cases this
      | _ => exact hown.elim
  · exact na (.inr za)
theorem t_borrow (i : Nat) {d : PyData} {m : M Bool} (h : TJ X R (Γ.set i (.fz d)) e m) (hΓ : Γ[i]? = some (.ow d) := by rfl) : TJ X R Γ e m :=
  PT.weak h fun σ H Q ⟨O, H0, ow, st, z, st', rel, ok, e, q⟩ => ⟨O, H0, ow, st, z, st', rel.low (low_fr hΓ), ok, e, q⟩

/-! ### what is walked -/
def ItOk (J : It) (A : Av) (H1 : Hp) (ds : List PyData) : Prop := ∀ H i, Keep A H1 H → (ds.length ≤ i → J.stop i H) ∧ ∀ d, ds[i]? = some d → J.go i H ∧ ∀ v H', J.yld i H v H' → Same H H' ∧
  ∀ A', (∀ a o, ¬ A a → H1 a = some o → ¬ A' a) → Adom A' H → Rp A' H' v d
def tI (R : Res) (Γ : List Slot) (enc : ι → PyData) (m : M (List ι)) : TI := fun σ H Rr => ∃ O H0 ow st r st', Rel R O H0 ow Γ σ H ∧ okR R st H ∧ m st = some (r, st') ∧
  ∀ J H1, Keep (Zr R) H H1 → okR R st' H1 → r.length ≤ sizeLine → ItOk J (avo O Γ ow) H1 (r.map enc) → Rr J H1
abbrev IJ (X : Cx) (R : Res) (Γ : List Slot) (iter tg : Expr) (enc : ι → PyData) (m : M (List ι)) : Prop := PI X tg iter (tI R Γ enc m)
theorem PI.weak {tg iter : Expr} {t t' : TI} (h : PI X tg iter t) (w : ∀ σ H Rr, t' σ H Rr → t σ H Rr) : PI X tg iter t' := ⟨fun pins s σ H Rr I q => h.run pins s σ H Rr I (w σ H Rr q)⟩
def Fits (H : Hp) : Prop := ∀ a xs, (H a = some (.lst xs) ∨ H a = some (.tup xs)) → xs.length ≤ sizeLine
theorem Inv.fits {pins : List (Addr × Obj)} {σ : L2.St} {H : Hp} {s : Shared} (I : Inv X pins σ H s) : Fits H := fun a xs h => by
  rcases h with h | h
  · obtain ⟨z, _⟩ := I.hok a _ h; exact z
  · obtain ⟨z, _⟩ := I.hok a _ h; exact z
theorem PI.fits {tg iter : Expr} {t : TI} (h : PI X tg iter t) : PI X tg iter (fun σ H Rr => t σ H fun J H1 => Fits H1 → Rr J H1) := ⟨fun pins s σ H Rr I q =>
  thn (h.run pins s σ H _ I q) fun v s1 w => thn w fun itv s2 ⟨it, fp, tn, J, H', a, b, c, d, f, g⟩ => ⟨it, fp, tn, J, H', a, b, c, d, f, g (Inv.fits b)⟩⟩
theorem PE.fits {t : TE} (h : PE X e t) : PE X e (fun σ H Q => t σ H fun v H1 => Fits H1 → Q v H1) := ⟨fun pins s σ H Q I q =>
  thn (h.run pins s σ H _ I q) fun v s1 ⟨x, H', a, b, c⟩ => ⟨x, H', a, b, c (Inv.fits a)⟩⟩
/-- what the items of a list or a tuple say -/
theorem items_ok {A A' : Av} {H1 H : Hp} {vs : List V} {ds : List PyData} (r : RpAll A H1 vs ds) (k : Keep A H1 H) {i : Nat} {v : V} {d : PyData} (hv : vs[i]? = some v) (hd : ds[i]? = some d) (h : ∀ a o, ¬ A a → H1 a = some o → ¬ A' a) : Rp A' H v d := by
  obtain ⟨w, hw, rw'⟩ := r.get hd
  rw [hv] at hw; cases hw
  exact Rp.move (fun a o na e => ⟨h a o na e, k a o na e⟩) d v rw'
theorem itok_list {K : PySem.W.Frag} {A : Av} {H1 : Hp} {a : Addr} {vs : List V} {ds : List PyData} (na : ¬ A a) (ha : H1 a = some (.lst vs)) (r : RpAll A H1 vs ds) : ItOk (Itl K a) A H1 ds := fun H i k => by
  have hH := k _ _ na ha
  refine ⟨fun hl => ⟨vs, SqL.of hH, by rw [r.length]; exact hl⟩, fun d hd => ?_⟩
  obtain ⟨v0, hv0, _⟩ := r.get hd
  refine ⟨⟨vs, v0, SqL.of hH, hv0⟩, fun v H' y => ?_⟩
  obtain ⟨rfl, hy⟩ := y
  refine ⟨Same.refl _, fun A' h _ => ?_⟩
  have : v0 = v := Option.some.inj (hv0.symm.trans (hy vs (SqL.of hH)))
  subst this
  exact items_ok r k hv0 hd h
theorem itok_tup {K : PySem.W.Frag} {A : Av} {H1 : Hp} {a : Addr} {vs : List V} {ds : List PyData} (na : ¬ A a) (ha : H1 a = some (.tup vs)) (r : RpAll A H1 vs ds) : ItOk (Itt K a) A H1 ds := fun H i k => by
  have hH := k _ _ na ha
  refine ⟨fun hl => ⟨vs, SqT.of hH, by rw [r.length]; exact hl⟩, fun d hd => ?_⟩
  obtain ⟨v0, hv0, _⟩ := r.get hd
  refine ⟨⟨vs, v0, SqT.of hH, hv0⟩, fun v H' y => ?_⟩
  obtain ⟨rfl, hy⟩ := y
  refine ⟨Same.refl _, fun A' h _ => ?_⟩
  have : v0 = v := Option.some.inj (hv0.symm.trans (hy vs (SqT.of hH)))
  subst this
  exact items_ok r k hv0 hd h
theorem i_list {tg : Expr} {enc : ι → PyData} {m : M (List ι)} (h : EJ X R Γ e (eL enc) m) : IJ X R Γ e tg enc m := by
  refine PI.weak (PI.fits (pi_list h)) fun σ H Rr ⟨O, H0, ow, st, z, st', rel, ok, e, q⟩ => ⟨O, H0, ow, st, z, st', rel, ok, e, fun v H1 k o rp => ?_⟩
  cases rp with
  | @lst a vs _ na ha ra =>
    exact ⟨a, rfl, ⟨vs, SqL.of ha⟩, fun fit => q _ H1 k o (by have := fit a vs (.inl ha); rw [ra.length, List.length_map] at this; exact this) (itok_list na ha ra)⟩
end
end Pz

namespace Pz
open PySem PySem.Spec PyProof.Rows L2

section
variable {α β γ κ ρ ι : Type} {ea : α → PyData} {ec : γ → PyData} {er : ρ → PyData} {ei : ι → PyData} {X : Cx} {R : Res} {Γ Γ' : List Slot} {e c : Expr} {st : Stmt} {rest A B : List Stmt} {pos : Pos} {out : κ → OutD}
theorem i_tup {tg : Expr} {enc : ι → PyData} {m : M (List ι)} (h : EJ X R Γ e (eT enc) m) : IJ X R Γ e tg enc m := by
  refine PI.weak (PI.fits (pi_tup h)) fun σ H Rr ⟨O, H0, ow, st, z, st', rel, ok, e, q⟩ => ⟨O, H0, ow, st, z, st', rel, ok, e, fun v H1 k o rp => ?_⟩
  cases rp with
  | @tup a vs _ na ha ra =>
    exact ⟨a, rfl, ⟨vs, SqT.of ha⟩, fun fit => q _ H1 k o (by have := fit a vs (.inr ha); rw [ra.length, List.length_map] at this; exact this) (itok_tup na ha ra)⟩
/-- lo, lo + 1, .. below hi -/
def irange (lo hi : Int) : List Int := (List.range (hi - lo).toNat).map fun i => lo + (i : Nat)
def rangeM (lo hi : Int) : M (List Int) := if -(2 ^ 61) ≤ lo ∧ lo ≤ 2 ^ 61 ∧ -(2 ^ 61) ≤ hi ∧ hi ≤ 2 ^ 61 ∧ (hi - lo).toNat ≤ sizeLine then pureM (irange lo hi) else failM
theorem itok_range {A : Av} {H1 : Hp} (lo : Int) (n : Nat) : ItOk (Itr lo n) A H1 (((List.range n).map fun i => lo + (i : Nat)).map eInt) := fun H i k => by
  refine ⟨fun hl => (by simpa using hl : n ≤ i), fun d hd => ?_⟩
  rw [List.getElem?_map, List.getElem?_map] at hd
  cases hr : (List.range n)[i]? with
  | none => rw [hr] at hd; cases hd
  | some j =>
    rw [hr] at hd
    have hi : i < n := by have := (List.getElem?_eq_some_iff.mp hr).1; simpa using this
    have hj : j = i := by rw [List.getElem?_range hi] at hr; cases hr; rfl
    subst hj
    have hd' : eInt (lo + (j : Nat)) = d := Option.some.inj hd
    subst hd'
    refine ⟨hi, fun v H' y => ?_⟩
    obtain ⟨rfl, rfl⟩ := y
    exact ⟨Same.refl _, fun A' _ _ => .int _⟩
theorem i_range1 {tg a : Expr} {p : Pos} {m : M Int} (hm : X.mg "range" = none) (ha : EJ X R Γ a eInt m) (hg : Gl X "range" := by rfl) (hs : starEach [a] X.env = [(false, eval a X.env)] := by rfl) : IJ X R Γ (.Call (.Name "range" p) [a] [] pos) tg eInt (bindM m fun n => rangeM 0 n) := by
  refine PI.weak (pi_range1 hg hm (pa_cons ha pa_nil hs) hs) fun σ H Rr ⟨O, H0, ow, st, z, st', rel, ok, e, q⟩ => ?_
  obtain ⟨n, s1, e1, e2⟩ := bind_some e
  unfold rangeM at e2
  obtain ⟨⟨h1, h2, h3, h4, h5⟩, rfl, rfl⟩ := if_some e2
  refine ⟨O, H0, ow, st, n, s1, rel, ok, e1, fun v H1 k o rp => ?_⟩
  cases rp
  refine ⟨n, rfl, by omega, by omega, q _ H1 k o (by simp [irange]; omega) ?_⟩
  have := itok_range (A := avo O Γ ow) (H1 := H1) 0 n.toNat
  simpa [irange] using this
theorem i_range2 {tg a b : Expr} {p : Pos} {ma mb : M Int} (hm : X.mg "range" = none) (ha : EJ X R Γ a eInt ma) (hb : EJ X R Γ b eInt mb) (hg : Gl X "range" := by rfl) (hs : starEach [a, b] X.env = [(false, eval a X.env), (false, eval b X.env)] := by rfl) (hs2 : starEach [b] X.env = [(false, eval b X.env)] := by rfl) :
    IJ X R Γ (.Call (.Name "range" p) [a, b] [] pos) tg eInt (bindM ma fun lo => bindM mb fun hi => rangeM lo hi) := by
  refine PI.weak (pi_range2 hg hm (pa_cons ha (pa_cons hb pa_nil hs2) (by rw [hs, hs2])) hs hs2) fun σ H Rr ⟨O, H0, ow, st, z, st', rel, ok, e, q⟩ => ?_
  obtain ⟨lo, s1, e1, e'⟩ := bind_some e
  obtain ⟨hi, s2, e2, e3⟩ := bind_some e'
  unfold rangeM at e3
  obtain ⟨⟨h1, h2, h3, h4, h5⟩, rfl, rfl⟩ := if_some e3
  refine ⟨O, H0, ow, st, lo, s1, rel, ok, e1, fun v H1 k o rp => ?_⟩
  cases rp
  refine ⟨O, H0, ow, s1, hi, s2, rel.grow k (okZ o), o, e2, fun v H2 k2 o2 rp => ?_⟩
  cases rp
  refine ⟨lo, hi, rfl, ⟨by omega, by omega, by omega, by omega⟩, q _ H2 (k.trans k2) o2 (by simp [irange]; omega) ?_⟩
  exact itok_range (A := avo O Γ ow) (H1 := H2) lo (hi - lo).toNat
theorem i_low {tg : Expr} {enc : ι → PyData} {m : M (List ι)} (hl : Low Γ Γ') (h : IJ X R Γ' e tg enc m) (hn : ∀ (i : Nat) (d : PyData), Γ[i]? = some (.ow d) → Γ'[i]? = some (.ow d)) : IJ X R Γ e tg enc m :=
  PI.weak h fun σ H Rr ⟨O, H0, ow, st, z, st', rel, ok, e, q⟩ => ⟨O, H0, ow, st, z, st', rel.low hl, ok, e, fun J H1 k o l it => q J H1 k o l (by
    have : avo O Γ' ow = avo O Γ ow := funext fun a => propext ⟨hl.avo a, fun z => by
      rcases z with z | ⟨i, d, e1, e2⟩
      · exact .inl z
      · exact .inr ⟨i, d, hn i d e1, e2⟩⟩
    rw [← this]; exact it)⟩

/-! ### targets -/
/-- what a target does with x: the slots; is: the places it sets -/
def tG (set : List Slot → ι → List Slot) (is : List Nat) (enc : ι → PyData) : TG := fun v σ H Q => ∃ R O H0 ow Γ x, Rel R O H0 ow Γ σ H ∧ Rp (avo O Γ ow) H v (enc x) ∧
  ∀ σ', Rel R O H0 ow (set Γ x) σ' H → (∀ vs : List Nat, (∀ i ∈ is, i ∈ vs) → wipe σ' vs = wipe σ vs) → Q σ' H
abbrev GJ (X : Cx) (tg : Expr) (set : List Slot → ι → List Slot) (is : List Nat) (enc : ι → PyData) : Prop := PG X tg (tG set is enc)
theorem wipe_at {σ : L2.St} : ∀ {vs : List Nat} {i : Nat} {y : Option V}, i ∈ vs → wipe (σ.set i y) vs = wipe σ vs
  | [], _, _, h => by simp at h
  | v :: vs, i, y, h => by
    unfold wipe
    by_cases hm : i ∈ vs
    · rw [wipe_at hm]
    · have hv : i = v := by rcases List.mem_cons.mp h with e | e; exact e; exact absurd e hm
      subst hv
      have aux : ∀ ws : List Nat, (wipe (σ.set i y) ws).set i none = (wipe σ ws).set i none := by
        intro ws
        induction ws with
        | nil => unfold wipe; rw [List.set_set]
        | cons w ws ih =>
          unfold wipe
          by_cases hw : w = i
          · subst hw; rw [List.set_set, List.set_set]; exact ih
          · rw [List.set_comm _ _ hw, ih, List.set_comm _ _ (fun z => hw z.symm)]
      exact aux vs
theorem g_name (i : Nat) {x : Str} (enc : ι → PyData) (hN : X.N.Nodup) (hi : X.N[i]? = some x := by rfl) (hx : Loc X.env.scope x := by first | exact Or.inl rfl | exact Or.inr rfl)
    (hf : X.fn x = true ∨ X.env.scope.names.lookup x = some .local := by first | exact .inl rfl | exact .inr rfl) : GJ X (.Name x pos) (fun Γ y => Γ.set i (.fz (enc y))) [i] enc := by
  refine PG.weak (pg_name hN hi hx hf) fun v σ H Q ⟨R, O, H0, ow, Γ, x, rel, rp, q⟩ => ?_
  exact q _ (rel.setFz i rp) fun vs hv => wipe_at (hv i (List.mem_singleton.mpr rfl))
/-- targets one after the other -/
def tGs {α : Type} (set : List Slot → α → List Slot) (is : List Nat) (enc : α → List PyData) : TGs := fun vs σ H Q => ∃ R O H0 ow Γ x, Rel R O H0 ow Γ σ H ∧ RpAll (avo O Γ ow) H vs (enc x) ∧
  ∀ σ', Rel R O H0 ow (set Γ x) σ' H → (∀ vs : List Nat, (∀ i ∈ is, i ∈ vs) → wipe σ' vs = wipe σ vs) → Q σ' H
theorem PGs.weak {es : List Expr} {t t' : TGs} (h : PGs X es t) (w : ∀ vs σ H Q, t' vs σ H Q → t vs σ H Q) : PGs X es t' := ⟨fun pins s σ H vs us Q I r q => h.run pins s σ H vs us Q I r (w vs σ H Q q)⟩
theorem gs_nil : PGs X [] (tGs (fun Γ (_ : Unit) => Γ) [] eU) := by
  refine PGs.weak pgs_nil fun vs σ H Q ⟨R, O, H0, ow, Γ, x, rel, rp, q⟩ => ?_
  cases rp
  exact ⟨rfl, q σ rel fun _ _ => rfl⟩
theorem gs_cons {tg : Expr} {es : List Expr} {s1 : List Slot → α → List Slot} {s2 : List Slot → β → List Slot} {is js : List Nat} {enc : α → PyData} {en : β → List PyData} (h1 : GJ X tg s1 is enc) (h2 : PGs X es (tGs s2 js en)) (hset : ∀ Γ x (i : Nat) d, (s1 Γ x)[i]? = some (.ow d) → Γ[i]? = some (.ow d))
    (hs : (assignEach (tg :: es) X.env).map (·.2) = assign tg X.env :: (assignEach es X.env).map (·.2) := by rfl) : PGs X (tg :: es) (tGs (fun Γ (p : α × β) => s2 (s1 Γ p.1) p.2) (is ++ js) (eC enc en)) := by
  refine PGs.weak (pgs_cons h1 h2 hs) fun vs σ H Q ⟨R, O, H0, ow, Γ, x, rel, rp, q⟩ => ?_
  cases rp with
  | @cons v vs d ds r1 r2 =>
    refine ⟨v, vs, rfl, R, O, H0, ow, Γ, x.1, rel, r1, fun σ' rel' w' => ⟨R, O, H0, ow, _, x.2, rel', ?_, fun σ2 rel2 w2 => q σ2 rel2 fun vs hv => ?_⟩⟩
    · exact r2.less fun a z => by
        rcases z with z | ⟨i, d, e1, e2⟩
        · exact .inl z
        · exact .inr ⟨i, d, hset _ _ _ _ e1, e2⟩
    · rw [w2 vs fun i hi => hv i (List.mem_append_right _ hi), w' vs fun i hi => hv i (List.mem_append_left _ hi)]
theorem set_noow {Γ : List Slot} {i : Nat} {d' : PyData} : ∀ (j : Nat) (d : PyData), (Γ.set i (.fz d'))[j]? = some (.ow d) → Γ[j]? = some (.ow d) := fun j d e => by
  by_cases h : i = j
  · subst h
    rw [List.getElem?_set_self'] at e
    cases h : Γ[i]? <;> rw [h] at e <;> cases e
  · rw [List.getElem?_set_ne h] at e; exact e
theorem g_tup {es : List Expr} {k n : Nat} {set : List Slot → α → List Slot} {is : List Nat} {en : α → List PyData} (hc : X.calm = true) (h : PGs X es (tGs set is en)) (hl : ∀ x, (en x).length = n := by intro _; rfl) (hn : (assignEach es X.env).length = n := by rfl)
    (hst : (assignEach es X.env).findIdx? (·.1) = none := by rfl) : GJ X (.Tuple es k pos) set is (eP en) := by
  refine PG.weak (pg_tup hc h hn hst) fun v σ H Q ⟨R, O, H0, ow, Γ, x, rel, rp, q⟩ => ?_
  cases rp with
  | @tup a vs _ na ha ra =>
    exact ⟨a, vs, rfl, SqT.of ha, by rw [ra.length]; exact hl x, R, O, H0, ow, Γ, x, rel, ra, q⟩

/-! ### for -/
theorem q_for {set : List Slot → ι → List Slot} {is : List Nat} {tg iter : Expr} {body : List Stmt} {mi : M (List ι)} (Γb : β → List Slot) (b0 : β) (f : β → ι → M β) (hp : PassesOwn (model X.prog X.w) X.A X.env X.xe) (hc : X.calm = true)
    (hi : IJ X R Γ iter tg ei mi) (hg : GJ X tg set is ei) (hset : ∀ Γ x (i : Nat) d, (set Γ x)[i]? = some (.ow d) → Γ[i]? = some (.ow d)) (hlow : Low Γ (Γb b0))
    (hb : ∀ b x, SJ X R (set (Γb b) x) body (fun b' => .nx (Γb b')) (f b x)) (hs : ∀ x, foldedSetIterable iter X.env x = pure x := by intro _; rfl) :
    QJ X R Γ (.For tg iter body [] pos) (fun b => .nx (Γb b)) (bindM mi fun xs => forM' f xs b0) := by
  refine PS.weak (ps_for hp hc hi hg (PSs.ex fun b => PSs.ex fun x => hb b x) hs) fun D σ H ⟨O, H0, ow, st, bf, stf, rel, ok, e, q⟩ => ?_
  obtain ⟨xs, s1, e1, e2⟩ := bind_some e
  refine ⟨O, H0, ow, st, xs, s1, rel, ok, e1, fun J H1 k1 o1 hlen it => ?_⟩
  have rel1 := rel.grow k1 (okZ o1)
  refine ⟨fun i m σ' H' => m = xs.length - i ∧ i ≤ xs.length ∧ ∃ b u ow', Rel R O H0 ow' (Γb b) σ' H' ∧ okR R u H' ∧ forM' f (xs.drop i) b u = some (bf, stf) ∧ Step O Γ ow H1 (Γb b) ow' H', ⟨_, rfl, Nat.zero_le _, b0, s1, ow, rel1.low hlow, o1, e2, Step.refl.lowR hlow⟩, ?_⟩
  rintro i m σ' H' ⟨rfl, hile, b, u, ow', rel', ok', ef, sp⟩
  obtain ⟨stop, go⟩ := it H' i sp.keep
  by_cases hlt : i < xs.length
  · have hx : xs[i]? = some xs[i] := List.getElem?_eq_getElem hlt
    obtain ⟨hgo, hy⟩ := go (ei xs[i]) (by rw [List.getElem?_map, hx]; rfl)
    rw [List.drop_eq_getElem_cons hlt] at ef
    obtain ⟨b2, u2, ef1, ef2⟩ := bind_some (show bindM (f b xs[i]) (fun b' => forM' f (xs.drop (i + 1)) b') u = some (bf, stf) from ef)
    refine .inr ⟨hgo, fun σ2 H2 => ∃ ow2, Rel R O H0 ow2 (Γb b2) σ2 H2 ∧ okR R u2 H2 ∧ Step O Γ ow H1 (Γb b2) ow2 H2, fun σ2 H2 ⟨ow2, r2, o2, p2⟩ => ⟨_, by omega, rfl, hlt, b2, u2, ow2, r2, o2, ef2, p2⟩, fun v H2 y => ?_⟩
    obtain ⟨same, rp⟩ := hy v H2 y
    have relg := rel'.grow (Keep.of_same same) (fun a z => by
      have := rel'.odom a (rel'.zsub a z)
      cases h : H' a with
      | none => exact absurd h this
      | some o => rw [same a o h]; simp)
    refine ⟨R, O, H0, ow', Γb b, xs[i], relg, rp _ (fun a o na ea z => ?_) rel'.ad, fun σ3 rel3 _ => ⟨b, xs[i], O, H0, ow', u, b2, u2, rel3, ok'.same same, ef1, fun ow4 σ4 H4 rel4 ok4 sp4 => ⟨ow4, rel4, ok4, ?_⟩⟩⟩
    · rcases z with z | ⟨j, d, e3, e4⟩
      · exact na (.inl z)
      · rcases sp.sub j d e3 with z | z
        · exact na (by rw [← e4]; exact z)
        · rw [e4, ea] at z; cases z
    · have avs : ∀ a, avo O (set (Γb b) xs[i]) ow' a → avo O (Γb b) ow' a := fun a z => by
        rcases z with z | ⟨j, d, e3, e4⟩
        · exact .inl z
        · exact .inr ⟨j, d, hset _ _ _ _ e3, e4⟩
      have sp5 : Step O (Γb b) ow' H' (Γb b2) ow4 H4 := Step.pre (Keep.of_same same) ⟨sp4.keep.mono avs, fun j d e3 => by
        rcases sp4.sub j d e3 with z | z
        · exact .inl (avs _ z)
        · exact .inr z⟩
      exact sp.trans sp5
  · have hi' : i = xs.length := by omega
    subst hi'
    refine .inl ⟨stop (by simp), ?_⟩
    rw [List.drop_length] at ef
    obtain ⟨rfl, rfl⟩ := pure_some (show pureM b u = some (bf, stf) from ef)
    exact q ow' σ' H' rel' ok' (sp.pre (rel.keepA k1))
/-- a loop that may return -/
theorem q_forO {set : List Slot → ι → List Slot} {is : List Nat} {tg iter : Expr} {body : List Stmt} {mi : M (List ι)} (Γb : β → List Slot) (b0 : β) (f : β → ι → M (Out ρ β)) (hp : PassesOwn (model X.prog X.w) X.A X.env X.xe) (hc : X.calm = true)
    (hi : IJ X R Γ iter tg ei mi) (hg : GJ X tg set is ei) (hset : ∀ Γ x (i : Nat) d, (set Γ x)[i]? = some (.ow d) → Γ[i]? = some (.ow d)) (hlow : Low Γ (Γb b0))
    (hb : ∀ b x, SJ X R (set (Γb b) x) body (outO er Γb) (f b x)) (hs : ∀ x, foldedSetIterable iter X.env x = pure x := by intro _; rfl) :
    QJ X R Γ (.For tg iter body [] pos) (outO er Γb) (bindM mi fun xs => forO f xs b0) := by
  refine PS.weak (ps_for hp hc hi hg (PSs.ex fun b => PSs.ex fun x => hb b x) hs) fun D σ H ⟨O, H0, ow, st, bf, stf, rel, ok, e, q⟩ => ?_
  obtain ⟨xs, s1, e1, e2⟩ := bind_some e
  refine ⟨O, H0, ow, st, xs, s1, rel, ok, e1, fun J H1 k1 o1 hlen it => ?_⟩
  have rel1 := rel.grow k1 (okZ o1)
  refine ⟨fun i m σ' H' => m = xs.length - i ∧ i ≤ xs.length ∧ ∃ b u ow', Rel R O H0 ow' (Γb b) σ' H' ∧ okR R u H' ∧ forO f (xs.drop i) b u = some (bf, stf) ∧ Step O Γ ow H1 (Γb b) ow' H', ⟨_, rfl, Nat.zero_le _, b0, s1, ow, rel1.low hlow, o1, e2, Step.refl.lowR hlow⟩, ?_⟩
  rintro i m σ' H' ⟨rfl, hile, b, u, ow', rel', ok', ef, sp⟩
  obtain ⟨stop, go⟩ := it H' i sp.keep
  by_cases hlt : i < xs.length
  · have hx : xs[i]? = some xs[i] := List.getElem?_eq_getElem hlt
    obtain ⟨hgo, hy⟩ := go (ei xs[i]) (by rw [List.getElem?_map, hx]; rfl)
    rw [List.drop_eq_getElem_cons hlt] at ef
    rw [forO] at ef
    obtain ⟨o2, u2, ef1, ef2⟩ := bind_some ef
    refine .inr ⟨hgo, fun σ2 H2 => ∃ b2 ow2, o2 = .nx b2 ∧ Rel R O H0 ow2 (Γb b2) σ2 H2 ∧ okR R u2 H2 ∧ Step O Γ ow H1 (Γb b2) ow2 H2, fun σ2 H2 ⟨b2, ow2, eo, r2, o2, p2⟩ => ⟨_, by omega, rfl, hlt, b2, u2, ow2, r2, o2, by subst eo; exact ef2, p2⟩, fun v H2 y => ?_⟩
    obtain ⟨same, rp⟩ := hy v H2 y
    have relg := rel'.grow (Keep.of_same same) (fun a z => by
      have := rel'.odom a (rel'.zsub a z)
      cases h : H' a with
      | none => exact absurd h this
      | some o => rw [same a o h]; simp)
    refine ⟨R, O, H0, ow', Γb b, xs[i], relg, rp _ (fun a o na ea z => ?_) rel'.ad, fun σ3 rel3 _ => ⟨b, xs[i], O, H0, ow', u, o2, u2, rel3, ok'.same same, ef1, ?_⟩⟩
    · rcases z with z | ⟨j, d, e3, e4⟩
      · exact na (.inl z)
      · rcases sp.sub j d e3 with z | z
        · exact na (by rw [← e4]; exact z)
        · rw [e4, ea] at z; cases z
    · have avs : ∀ a, avo O (set (Γb b) xs[i]) ow' a → avo O (Γb b) ow' a := fun a z => by
        rcases z with z | ⟨j, d, e3, e4⟩
        · exact .inl z
        · exact .inr ⟨j, d, hset _ _ _ _ e3, e4⟩
      cases o2 with
      | nx b2 =>
        refine fun ow4 σ4 H4 rel4 ok4 sp4 => ⟨b2, ow4, rfl, rel4, ok4, ?_⟩
        have sp5 : Step O (Γb b) ow' H' (Γb b2) ow4 H4 := Step.pre (Keep.of_same same) ⟨sp4.keep.mono avs, fun j d e3 => by
          rcases sp4.sub j d e3 with z | z
          · exact .inl (avs _ z)
          · exact .inr z⟩
        exact sp.trans sp5
      | rt r =>
        obtain ⟨rfl, rfl⟩ := pure_some (show pureM (Out.rt r) u2 = some (bf, stf) from ef2)
        exact q
  · have hi' : i = xs.length := by omega
    subst hi'
    refine .inl ⟨stop (by simp), ?_⟩
    rw [List.drop_length] at ef
    obtain ⟨rfl, rfl⟩ := pure_some (show pureM (Out.nx b) u = some (bf, stf) from ef)
    exact q ow' σ' H' rel' ok' (sp.pre (rel.keepA k1))
/-! ### while -/
theorem q_while {body : List Stmt} (Γb : β → List Slot) (b0 : β) (n : Nat) (mc : β → M Bool) (f : β → M β) (hp : PassesOwn (model X.prog X.w) X.A X.env X.xe) (hlow : Low Γ (Γb b0))
    (hc : ∀ b, TJ X R (Γb b) c (mc b)) (hb : ∀ b, SJ X R (Γb b) body (fun b' => .nx (Γb b')) (f b)) : QJ X R Γ (.While c body [] pos) (fun b => .nx (Γb b)) (whileM mc f n b0) := by
  refine PS.weak (ps_while hp (PT.ex hc) (PSs.ex hb)) fun D σ H ⟨O, H0, ow, st, bf, stf, rel, ok, e, q⟩ => ?_
  refine ⟨fun m σ' H' => ∃ b u ow', Rel R O H0 ow' (Γb b) σ' H' ∧ okR R u H' ∧ whileM mc f m b u = some (bf, stf) ∧ Step O Γ ow H (Γb b) ow' H', ⟨n, b0, st, ow, rel.low hlow, ok, e, Step.refl.lowR hlow⟩, ?_⟩
  rintro m σ' H' ⟨b, u, ow', rel', ok', ef, sp⟩
  cases m with
  | zero => cases ef
  | succ m =>
    obtain ⟨k, u2, ef1, ef2⟩ := bind_some (show bindM (mc b) (fun k => if k then bindM (f b) fun b' => whileM mc f m b' else pureM b) u = some (bf, stf) from ef)
    refine ⟨b, O, H0, ow', u, k, u2, rel', ok', ef1, fun H2 k2 o2 => ?_⟩
    have rel2 := rel'.grow k2 (okZ o2)
    cases k with
    | true =>
      obtain ⟨b3, u3, ef3, ef4⟩ := bind_some (show bindM (f b) (fun b' => whileM mc f m b') u2 = some (bf, stf) from ef2)
      refine L2.iteT ⟨fun σ3 H3 => ∃ ow3, Rel R O H0 ow3 (Γb b3) σ3 H3 ∧ okR R u3 H3 ∧ Step O Γ ow H (Γb b3) ow3 H3, fun σ3 H3 ⟨ow3, r3, o3, p3⟩ => ⟨m, Nat.lt_succ_self m, b3, u3, ow3, r3, o3, ef4, p3⟩, b, O, H0, ow', u2, b3, u3, rel2, o2, ef3, fun ow4 σ4 H4 rel4 ok4 sp4 => ⟨ow4, rel4, ok4, sp.trans (sp4.pre (rel'.keepA k2))⟩⟩
    | false =>
      obtain ⟨rfl, rfl⟩ := pure_some (show pureM b u2 = some (bf, stf) from ef2)
      refine L2.iteF ?_
      exact q ow' σ' H2 rel2 o2 (sp.trans (Step.refl.pre (rel'.keepA k2)))
end
end Pz

namespace Pz
open PySem PySem.Spec PyProof.Rows L2

section
variable {α β γ κ ρ ι : Type} {ea : α → PyData} {ec : γ → PyData} {er : ρ → PyData} {ei : ι → PyData} {X : Cx} {R : Res} {Γ Γ' : List Slot} {e c : Expr} {st : Stmt} {rest A B : List Stmt} {pos : Pos} {out : κ → OutD}
/-! ### comprehensions -/
def compM (c : ι → M Bool) (f : ι → M γ) : List ι → M (List γ)
  | [] => pureM []
  | x :: xs => bindM (c x) fun b => if b then bindM (f x) fun y => bindM (compM c f xs) fun ys => pureM (y :: ys) else compM c f xs
def wipeG (Γ : List Slot) : List Nat → List Slot
  | [] => Γ
  | v :: vs => (wipeG Γ vs).set v .un
theorem wipeG_length : ∀ vs : List Nat, (wipeG Γ vs).length = Γ.length
  | [] => rfl
  | v :: vs => by unfold wipeG; rw [List.length_set, wipeG_length vs]
theorem wipeG_at {i : Nat} : ∀ {vs : List Nat}, i ∉ vs → (wipeG Γ vs)[i]? = Γ[i]?
  | [], _ => rfl
  | v :: vs, h => by
    simp only [List.mem_cons, not_or] at h
    unfold wipeG
    rw [List.getElem?_set_ne (fun z => h.1 z.symm)]
    exact wipeG_at h.2
theorem wipeG_in {i : Nat} {s : Slot} : ∀ {vs : List Nat}, i ∈ vs → (wipeG Γ vs)[i]? = some s → s = .un
  | [], h, _ => by simp at h
  | v :: vs, h, e => by
    unfold wipeG at e
    by_cases hv : v = i
    · subst hv
      rw [List.getElem?_set_self'] at e
      cases q : (wipeG Γ vs)[v]? with
      | none => rw [q] at e; cases e
      | some u => rw [q] at e; cases e; rfl
    · rw [List.getElem?_set_ne hv] at e
      rcases List.mem_cons.mp h with z | z
      · exact absurd z.symm hv
      · exact wipeG_in z e
theorem wipe_eq {σ : L2.St} {i : Nat} : ∀ {vs : List Nat}, i ∉ vs → (wipe σ vs)[i]? = σ[i]?
  | [], _ => rfl
  | v :: vs, h => by
    simp only [List.mem_cons, not_or] at h
    unfold wipe
    rw [List.getElem?_set_ne (fun z => h.1 z.symm)]
    exact wipe_eq h.2
theorem wipe_none {σ : L2.St} : ∀ {vs : List Nat} {i : Nat}, i ∈ vs → i < σ.length → (wipe σ vs)[i]? = some none
  | [], _, h, _ => by simp at h
  | v :: vs, i, h, hl => by
    unfold wipe
    by_cases hv : v = i
    · subst hv
      exact List.getElem?_set_self (by rw [wipe_length]; exact hl)
    · rw [List.getElem?_set_ne hv]
      rcases List.mem_cons.mp h with z | z
      · exact absurd z.symm hv
      · exact wipe_none z hl
theorem wipe_idem (σ : L2.St) (vs : List Nat) : wipe (wipe σ vs) vs = wipe σ vs := by
  apply List.ext_getElem?
  intro i
  by_cases h : i ∈ vs
  · by_cases hl : i < σ.length
    · rw [wipe_none h (by rw [wipe_length]; exact hl), wipe_none h hl]
    · rw [List.getElem?_eq_none (by rw [wipe_length, wipe_length]; omega), List.getElem?_eq_none (by rw [wipe_length]; omega)]
  · rw [wipe_eq h]
theorem Rel.wipe {O : Av} {H0 H : Hp} {ow : Nat → Addr} {σ : L2.St} (r : Rel R O H0 ow Γ σ H) (vs : List Nat) (hv : ∀ i ∈ vs, ∀ d, Γ[i]? ≠ some (.ow d)) : Rel R O H0 ow (wipeG Γ vs) (L2.wipe σ vs) H ∧ Pz.avo O (wipeG Γ vs) ow = Pz.avo O Γ ow := by
  have back : ∀ (i : Nat) (s : Slot), (wipeG Γ vs)[i]? = some s → s ≠ .un → i ∉ vs ∧ Γ[i]? = some s := fun i s e n => by
    by_cases h : i ∈ vs
    · exact absurd (wipeG_in h e) n
    · rw [wipeG_at h] at e; exact ⟨h, e⟩
  have av : Pz.avo O (wipeG Γ vs) ow = Pz.avo O Γ ow := funext fun a => propext ⟨fun z => by
      rcases z with z | ⟨i, d, e, q⟩
      · exact .inl z
      · exact .inr ⟨i, d, (back i _ e (by simp)).2, q⟩, fun z => by
      rcases z with z | ⟨i, d, e, q⟩
      · exact .inl z
      · exact .inr ⟨i, d, by rw [wipeG_at (fun h => hv i h d e)]; exact e, q⟩⟩
  refine ⟨⟨by rw [wipeG_length, wipe_length]; exact r.len, fun i d e => ?_, fun i d e => ?_, fun i e => ?_, fun i j d d' e1 e2 => r.hinj i j d d' (back i _ e1 (by simp)).2 (back j _ e2 (by simp)).2, r.same, r.zsub, r.odom⟩, av⟩
  · obtain ⟨h1, h2⟩ := back i _ e (by simp)
    rw [wipe_eq h1, av]; exact r.hfz i d h2
  · obtain ⟨h1, h2⟩ := back i _ e (by simp)
    rw [wipe_eq h1, av]; exact r.how i d h2
  · obtain ⟨h1, h2⟩ := back i _ e (by simp)
    rw [wipe_eq h1]; exact r.hsrc i h2
/-- one place more that is not looked at -/
theorem Rel.addO {O : Av} {H0 H : Hp} {ow : Nat → Addr} {σ : L2.St} (r : Rel R O H0 ow Γ σ H) {D : Addr} (n : H D = none) (o : HO) : Rel R (avp O D) H0 ow Γ σ (upd H D o) ∧ H0 D = none := by
  have nA : ¬ Pz.avo O Γ ow D := r.ad.fresh n
  have n0 : H0 D = none := by
    cases h : H0 D with
    | none => rfl
    | some u =>
      by_cases z1 : Zr R D
      · exact absurd (r.zavo z1) nA
      · rw [r.same D u z1 h] at n; cases n
  have k : Keep (Pz.avo O Γ ow) H (upd H D o) := fun a u _ e => by rw [upd_ne (ne_of_none e n)]; exact e
  have less : ∀ a, Pz.avo (avp O D) Γ ow a → avp (Pz.avo O Γ ow) D a := fun a z => by
    rcases z with (z | z) | ⟨i, d, e, q⟩
    · exact .inl (.inl z)
    · exact .inr z
    · exact .inl (.inr ⟨i, d, e, q⟩)
  refine ⟨⟨r.len, fun i d e => ?_, fun i d e => ?_, r.hsrc, r.hinj, fun a u z e => ?_, fun a z => .inl (r.zsub a z), fun a z => ?_⟩, n0⟩
  · obtain ⟨v, a, b⟩ := r.hfz i d e
    exact ⟨v, a, (b.at n k).less less⟩
  · obtain ⟨a, b, c, f⟩ := r.how i d e
    have ne : ow i ≠ D := fun z => nA (.inr ⟨i, d, e, z⟩)
    refine ⟨a, ?_, fun z => z.elim c ne, f⟩
    cases d with
    | list ds => obtain ⟨vs, q1, q2⟩ := b; exact ⟨vs, by rw [upd_ne ne]; exact q1, (q2.at n k).less less⟩
    | _ => exact b.elim
  · rw [upd_ne (fun q => by rw [q, n0] at e; cases e)]; exact r.same a u z e
  · by_cases q : a = D
    · rw [q, upd_same]; simp
    · rcases z with z | z
      · rw [upd_ne q]; exact r.odom a z
      · exact absurd z q
theorem Rel.updO {O : Av} {H0 H : Hp} {ow : Nat → Addr} {σ : L2.St} (r : Rel R O H0 ow Γ σ H) {D : Addr} (hD : O D) (n0 : H0 D = none) (o : HO) : Rel R O H0 ow Γ σ (upd H D o) := by
  have k : Keep (Pz.avo O Γ ow) H (upd H D o) := fun a u na e => by rw [upd_ne (fun z => na (.inl (by rw [z]; exact hD)))]; exact e
  refine ⟨r.len, fun i d e => ?_, fun i d e => ?_, r.hsrc, r.hinj, fun a u z e => ?_, r.zsub, fun a z => ?_⟩
  · obtain ⟨v, a, b⟩ := r.hfz i d e
    exact ⟨v, a, b.keep k⟩
  · obtain ⟨a, b, c, f⟩ := r.how i d e
    exact ⟨a, b.keep k fun o' q => by rw [upd_ne (fun z => c (by rw [z]; exact hD))]; exact q, c, f⟩
  · rw [upd_ne (fun q => by rw [q, n0] at e; cases e)]; exact r.same a u z e
  · by_cases q : a = D
    · rw [q, upd_same]; simp
    · rw [upd_ne q]; exact r.odom a z
theorem PTs.weak {ifs : List Expr} {t t' : TT} (h : PTs X ifs t) (w : ∀ σ H Q, t' σ H Q → t σ H Q) : PTs X ifs t' := ⟨fun pins s σ H Q I q => h.run pins s σ H Q I (w σ H Q q)⟩
theorem PTs.ex {ι : Type} {ifs : List Expr} {t : ι → TT} (h : ∀ x, PTs X ifs (t x)) : PTs X ifs (fun σ H Q => ∃ x, t x σ H Q) := ⟨fun pins s σ H Q I ⟨x, q⟩ => (h x).run pins s σ H Q I q⟩
abbrev CJ (X : Cx) (R : Res) (Γ : List Slot) (ifs : List Expr) (m : M Bool) : Prop := PTs X ifs (tT R Γ m)
theorem c_nil : CJ X R Γ [] (pureM true) := by
  refine PTs.weak pts_nil fun σ H Q ⟨O, H0, ow, st, z, st', rel, ok, e, q⟩ => ?_
  obtain ⟨rfl, rfl⟩ := pure_some e
  exact q H (Keep.refl H) ok
theorem c_one {m : M Bool} (h : TJ X R Γ c m) : CJ X R Γ [c] m := pts_one h
theorem lc_read {set : List Slot → ι → List Slot} {is vs : List Nat} {mi : M (List ι)} {mc : ι → M Bool} {f : ι → M γ} (hset : ∀ Γ x (i : Nat) d, (set Γ x)[i]? = some (.ow d) → Γ[i]? = some (.ow d))
    (hsm : ∀ Γ x (i : Nat), i ∉ is → (set Γ x)[i]? = Γ[i]?) (his : ∀ i ∈ is, i ∈ vs) (hvs : ∀ i ∈ vs, ∀ d, Γ[i]? ≠ some (.ow d)) {σ : L2.St} {H : Hp} {Q : VK} (h : tF R Γ ec (bindM mi fun xs => compM mc f xs) σ H Q) :
    tLc (tI R Γ ei mi) (tG set is ei) (fun σ H Q => ∃ x, tT R (set (wipeG Γ vs) x) (mc x) σ H Q) (fun σ H Q => ∃ x, tE R (set (wipeG Γ vs) x) ec (f x) σ H Q) vs σ H Q := by
  obtain ⟨O, H0, ow, st, r, st', rel, ok, e, q⟩ := h
  obtain ⟨xs, s1, e1, e2⟩ := bind_some e
  refine ⟨O, H0, ow, st, xs, s1, rel, ok, e1, fun J H1 k1 o1 hlen it => fun D nD => ?_⟩
  have rel1 := rel.grow k1 (okZ o1)
  obtain ⟨relw, av⟩ := rel1.wipe vs hvs
  obtain ⟨relD, n0⟩ := relw.addO nD (.lst [])
  have nZ : ¬ Zr R D := fun z => okZ o1 D z nD
  have nA : ¬ avo O Γ ow D := rel1.ad.fresh nD
  have avD : ∀ a, avo (avp O D) (wipeG Γ vs) ow a → avp (avo O Γ ow) D a := fun a z => by
    rcases z with (z | z) | z
    · exact .inl (.inl z)
    · exact .inr z
    · exact .inl (by rw [← av]; exact .inr z)
  have avL : ∀ a, avo O Γ ow a → avo (avp O D) (wipeG Γ vs) ow a := fun a z => by
    rw [← av] at z
    rcases z with z | z
    · exact .inl (.inl z)
    · exact .inr z
  refine ⟨fun i m H' => m = xs.length - i ∧ i ≤ xs.length ∧ ∃ u acc ys zs, Rel R (avp O D) H0 ow (wipeG Γ vs) (L2.wipe σ vs) H' ∧ okR R u H' ∧ H' D = some (.lst acc) ∧ RpAll (avo (avp O D) (wipeG Γ vs) ow) H' acc (ys.map ec) ∧
    compM mc f (xs.drop i) u = some (zs, st') ∧ r = ys ++ zs ∧ ys.length ≤ i ∧ Keep (Zr R) H1 H', ⟨_, rfl, Nat.zero_le _, s1, [], [], r, relD, o1.keep (fun a o z e => by rw [upd_ne (fun q => nZ (by rw [← q]; exact z))]; exact e), upd_same, .nil, e2, rfl, Nat.le_refl _, fun a o _ e => by rw [upd_ne (ne_of_none e nD)]; exact e⟩, ?_⟩
  rintro i m H' ⟨rfl, hile, u, acc, ys, zs, rel', ok', hD, racc, ef, rfl, hys, k'⟩
  have kA : Keep (avo O Γ ow) H1 H' := rel1.keepA k'
  obtain ⟨stop, go⟩ := it H' i kA
  by_cases hlt : i < xs.length
  · have hx : xs[i]? = some xs[i] := List.getElem?_eq_getElem hlt
    obtain ⟨hgo, hy⟩ := go (ei xs[i]) (by rw [List.getElem?_map, hx]; rfl)
    rw [List.drop_eq_getElem_cons hlt, compM] at ef
    obtain ⟨b, u2, ef1, ef2⟩ := bind_some ef
    refine .inr ⟨hgo, fun H2 => ∃ u acc ys' zs', Rel R (avp O D) H0 ow (wipeG Γ vs) (L2.wipe σ vs) H2 ∧ okR R u H2 ∧ H2 D = some (.lst acc) ∧ RpAll (avo (avp O D) (wipeG Γ vs) ow) H2 acc (ys'.map ec) ∧
      compM mc f (xs.drop (i + 1)) u = some (zs', st') ∧ ys ++ zs = ys' ++ zs' ∧ ys'.length ≤ i + 1 ∧ Keep (Zr R) H1 H2, fun H2 ⟨u', acc', ys', zs', a1, a2, a3, a4, a5, a6, a7, a8⟩ => ⟨_, by omega, rfl, hlt, u', acc', ys', zs', a1, a2, a3, a4, a5, a6, a7, a8⟩, fun v H2 y => ?_⟩
    obtain ⟨same, rp⟩ := hy v H2 y
    have relg := rel'.grow (Keep.of_same same) (fun a z => by
      have := rel'.odom a (rel'.zsub a z)
      cases h : H' a with
      | none => exact absurd h this
      | some o => rw [same a o h]; simp)
    refine ⟨R, avp O D, H0, ow, wipeG Γ vs, xs[i], relg, rp _ (fun a o na ea z => ?_) rel'.ad, fun σ3 rel3 w3 => ⟨(w3 vs his).trans (wipe_idem σ vs), xs[i], avp O D, H0, ow, u, b, u2, rel3, ok'.same same, ef1, fun H3 k3 o3 => ?_⟩⟩
    · rcases avD a z with z | z
      · exact na z
      · rw [z, nD] at ea; cases ea
    have hD3 : H3 D = some (.lst acc) := k3 _ _ nZ (same _ _ hD)
    have rel3' := rel3.grow k3 (okZ o3)
    have relH3 := relg.grow k3 (okZ o3)
    have kH3 : Keep (Zr R) H1 H3 := (k'.trans (Keep.of_same same)).trans k3
    have racc3 := (racc.keep (Keep.of_same same)).keep (relg.keepA k3)
    cases b with
    | false => exact L2.iteF ⟨u2, acc, ys, zs, relH3, o3, hD3, racc3, ef2, rfl, by omega, kH3⟩
    | true =>
      refine L2.iteT ⟨xs[i], avp O D, H0, ow, u2, ?_⟩
      obtain ⟨y, u3, ef3, ef4⟩ := bind_some (show bindM (f xs[i]) (fun y => bindM (compM mc f (xs.drop (i + 1))) fun ys => pureM (y :: ys)) u2 = some (zs, st') from ef2)
      obtain ⟨zs', u4, ef5, ef6⟩ := bind_some ef4
      obtain ⟨rfl, rfl⟩ := pure_some ef6
      refine ⟨y, u3, rel3', o3, ef3, fun w H4 k4 o4 rp4 => ?_⟩
      have hD4 : H4 D = some (.lst acc) := k4 _ _ nZ hD3
      have hacc : acc.length = ys.length := by have := racc.length; simpa using this
      refine ⟨acc, hD4, by omega, u3, acc ++ [w], ys ++ [y], zs', (relH3.grow k4 (okZ o4)).updO (.inr rfl) n0 _, o4.keep (fun a o z e => by rw [upd_ne (fun q => nZ (by rw [← q]; exact z))]; exact e), upd_same, ?_, ef5, by simp, by simp; omega, fun a o nz e => ?_⟩
      · have kD : Keep (avo (avp O D) (wipeG Γ vs) ow) H4 (upd H4 D (.lst (acc ++ [w]))) := fun a o na e => by rw [upd_ne (fun z => na (.inl (.inr z)))]; exact e
        rw [List.map_append]
        refine (((racc3.keep (relH3.keepA k4)).keep kD)).append (.cons ((rp4.less fun a z => ?_).keep kD) .nil)
        rcases z with z | ⟨j, d, e3, e4⟩
        · exact .inl z
        · refine .inr ⟨j, d, ?_, e4⟩
          rw [hsm _ _ j fun hj => absurd (wipeG_in (his j hj) e3) (by simp)]
          exact e3
      · rw [upd_ne (ne_of_none e nD)]; exact k4 _ _ nz (kH3 _ _ nz e)
  · have hi' : i = xs.length := by omega
    subst hi'
    refine .inl ⟨stop (by simp), ?_⟩
    rw [List.drop_length] at ef
    obtain ⟨rfl, rfl⟩ := pure_some (show pureM [] u = some (zs, st') from ef)
    rw [List.append_nil] at q
    refine q D acc H' ?_ (k1.trans k') ok' hD (racc.less fun a z => ?_)
    · exact noneK k1 o1 nD
    · rcases z with z | z
      · exact avL a z
      · exact .inl (.inr z)
theorem f_lc {set : List Slot → ι → List Slot} {is : List Nat} {mi : M (List ι)} {elt tg iter : Expr} {ifs : List Expr} {scope : Scope} (own : List (Str × Nat)) (mc : ι → M Bool) (f : ι → M γ) (hc : X.calm = true) (hN : X.N.Nodup)
    (hi : IJ X R Γ iter tg ei mi) (ok : BlkOk X.N X.env.scope scope own)
    (hg : ∀ (s : Shared) (H : Hp) (C : Addr) (cl : List (Str × Addr)) (fp : List Addr), GJ (X.blk s H scope (compEnvC scope cl C X.env) fp) tg set is ei)
    (ht : ∀ (s : Shared) (H : Hp) (C : Addr) (cl : List (Str × Addr)) (fp : List Addr) (x : ι), CJ (X.blk s H scope (compEnvC scope cl C X.env) fp) R (set (wipeG Γ (own.map (·.2))) x) ifs (mc x))
    (he : ∀ (s : Shared) (H : Hp) (C : Addr) (cl : List (Str × Addr)) (fp : List Addr) (x : ι), EJ (X.blk s H scope (compEnvC scope cl C X.env) fp) R (set (wipeG Γ (own.map (·.2))) x) elt ec (f x))
    (hset : ∀ Γ x (i : Nat) d, (set Γ x)[i]? = some (.ow d) → Γ[i]? = some (.ow d)) (hsm : ∀ Γ x (i : Nat), i ∉ is → (set Γ x)[i]? = Γ[i]?) (his : ∀ i ∈ is, i ∈ own.map (·.2)) (hvs : ∀ i ∈ own.map (·.2), ∀ d, Γ[i]? ≠ some (.ow d))
    (hs : ∀ x, foldedSetIterable iter X.env x = pure x := by intro _; rfl) : EF X R Γ (.ListComp elt [⟨tg, iter, ifs, 0⟩] scope pos) ec (bindM mi fun xs => compM mc f xs) :=
  PE.weak (pe_lc hc hN hi ok hg (fun s H C cl fp => PTs.ex fun x => ht s H C cl fp x) (fun s H C cl fp => PE.ex fun x => he s H C cl fp x) hs) fun σ H Q h => lc_read hset hsm his hvs h
/-- name = [..] on one line, the name a local -/
theorem q_setLc (i : Nat) {y : Str} {py spos : Pos} {set : List Slot → ι → List Slot} {is : List Nat} {mi : M (List ι)} {elt tg iter : Expr} {ifs : List Expr} {scope : Scope} (own : List (Str × Nat)) (mc : ι → M Bool) (f : ι → M γ) (hc : X.calm = true) (hN : X.N.Nodup)
    (hsw : swapsWith (.ListComp elt [⟨tg, iter, ifs, 0⟩] scope pos) (some (.Name y py)) spos.line X.env = pure true)
    (hi : IJ X R Γ iter tg ei mi) (ok : BlkOk X.N X.env.scope scope own)
    (hg : ∀ (s : Shared) (H : Hp) (C : Addr) (cl : List (Str × Addr)) (fp : List Addr), GJ (X.blk s H scope (compEnvC scope cl C X.env) fp) tg set is ei)
    (ht : ∀ (s : Shared) (H : Hp) (C : Addr) (cl : List (Str × Addr)) (fp : List Addr) (x : ι), CJ (X.blk s H scope (compEnvC scope cl C X.env) fp) R (set (wipeG Γ (own.map (·.2))) x) ifs (mc x))
    (he : ∀ (s : Shared) (H : Hp) (C : Addr) (cl : List (Str × Addr)) (fp : List Addr) (x : ι), EJ (X.blk s H scope (compEnvC scope cl C X.env) fp) R (set (wipeG Γ (own.map (·.2))) x) elt ec (f x))
    (hset : ∀ Γ x (i : Nat) d, (set Γ x)[i]? = some (.ow d) → Γ[i]? = some (.ow d)) (hsm : ∀ Γ x (i : Nat), i ∉ is → (set Γ x)[i]? = Γ[i]?) (his : ∀ i ∈ is, i ∈ own.map (·.2)) (hvs : ∀ i ∈ own.map (·.2), ∀ d, Γ[i]? ≠ some (.ow d))
    (hy : X.N[i]? = some y := by rfl) (hyl : X.env.scope.names.lookup y = some .local := by rfl) (hs : ∀ x, foldedSetIterable iter X.env x = pure x := by intro _; rfl) :
    QJ X R Γ (.Assign [.Name y py] (.ListComp elt [⟨tg, iter, ifs, 0⟩] scope pos) spos) (fun r => .nx (Γ.set i (.ow (eL ec r)))) (bindM mi fun xs => compM mc f xs) := by
  refine PS.weak (ps_setLc hc hN hy hyl hsw hi ok hg (fun s H C cl fp => PTs.ex fun x => ht s H C cl fp x) (fun s H C cl fp => PE.ex fun x => he s H C cl fp x) hs) fun D σ H h => ?_
  refine lc_read hset hsm his hvs ?_
  obtain ⟨O, H0, ow, st, z, st', rel, ok, e, q⟩ := h
  refine ⟨O, H0, ow, st, z, st', rel, ok, e, fun p vs H' n k o ep rp => ?_⟩
  obtain ⟨r1, s1⟩ := rel.setOw i n k (okZ o) ep rp
  exact q _ _ H' r1 o s1
/-- .. and it is only read from here on -/
theorem q_setLcE (i : Nat) {y : Str} {py spos : Pos} {set : List Slot → ι → List Slot} {is : List Nat} {mi : M (List ι)} {elt tg iter : Expr} {ifs : List Expr} {scope : Scope} (own : List (Str × Nat)) (mc : ι → M Bool) (f : ι → M γ) (hc : X.calm = true) (hN : X.N.Nodup)
    (hsw : swapsWith (.ListComp elt [⟨tg, iter, ifs, 0⟩] scope pos) (some (.Name y py)) spos.line X.env = pure true)
    (hi : IJ X R Γ iter tg ei mi) (ok : BlkOk X.N X.env.scope scope own)
    (hg : ∀ (s : Shared) (H : Hp) (C : Addr) (cl : List (Str × Addr)) (fp : List Addr), GJ (X.blk s H scope (compEnvC scope cl C X.env) fp) tg set is ei)
    (ht : ∀ (s : Shared) (H : Hp) (C : Addr) (cl : List (Str × Addr)) (fp : List Addr) (x : ι), CJ (X.blk s H scope (compEnvC scope cl C X.env) fp) R (set (wipeG Γ (own.map (·.2))) x) ifs (mc x))
    (he : ∀ (s : Shared) (H : Hp) (C : Addr) (cl : List (Str × Addr)) (fp : List Addr) (x : ι), EJ (X.blk s H scope (compEnvC scope cl C X.env) fp) R (set (wipeG Γ (own.map (·.2))) x) elt ec (f x))
    (hset : ∀ Γ x (i : Nat) d, (set Γ x)[i]? = some (.ow d) → Γ[i]? = some (.ow d)) (hsm : ∀ Γ x (i : Nat), i ∉ is → (set Γ x)[i]? = Γ[i]?) (his : ∀ i ∈ is, i ∈ own.map (·.2)) (hvs : ∀ i ∈ own.map (·.2), ∀ d, Γ[i]? ≠ some (.ow d))
    (hy : X.N[i]? = some y := by rfl) (hyl : X.env.scope.names.lookup y = some .local := by rfl) (hs : ∀ x, foldedSetIterable iter X.env x = pure x := by intro _; rfl) :
    QJ X R Γ (.Assign [.Name y py] (.ListComp elt [⟨tg, iter, ifs, 0⟩] scope pos) spos) (fun r => .nx (Γ.set i (.fz (eL ec r)))) (bindM mi fun xs => compM mc f xs) := by
  refine PS.weak (ps_setLc hc hN hy hyl hsw hi ok hg (fun s H C cl fp => PTs.ex fun x => ht s H C cl fp x) (fun s H C cl fp => PE.ex fun x => he s H C cl fp x) hs) fun D σ H h => ?_
  refine lc_read hset hsm his hvs ?_
  obtain ⟨O, H0, ow, st, z, st', rel, ok, e, q⟩ := h
  refine ⟨O, H0, ow, st, z, st', rel, ok, e, fun p vs H' n k o ep rp => ?_⟩
  exact q ow _ H' ((rel.grow k (okZ o)).setFz i (.lst (rel.ad.fresh n) ep (rp.less fun _ z => .inl z))) o (Step.setFz i _ (rel.keepA k))

/-! ### defs -/
/-- the promise: on the arguments en a it hands back what f a says -/
def SpM (en : α → List Slot) (er : ρ → PyData) (f : α → M ρ) : Sp := fun vs H Q _ => ∃ R O a st r st', (∀ x, Zr R x → O x) ∧ (∀ x, O x → H x ≠ none) ∧ okR R st H ∧ RpSs R O H vs (en a) ∧ f a st = some (r, st') ∧
  ∀ v H', Keep (Zr R) H H' → okR R st' H' → Rp O H' v (er r) → Q v H'
theorem RpSs.length {A : Av} {H : Hp} : ∀ {vs : List V} {l : List Slot}, RpSs R A H vs l → vs.length = l.length
  | _, [], h => by cases h; rfl
  | _, _ :: _, h => by cases h with | cons _ h2 => simp [RpSs.length h2]
theorem RpSs.get {A : Av} {H : Hp} : ∀ {vs : List V} {l : List Slot} {i : Nat} {s : Slot}, RpSs R A H vs l → l[i]? = some s → ∃ v, vs[i]? = some v ∧ RpS R A H v s
  | _, [], _, _, _, e => by simp at e
  | _, _ :: _, 0, _, h, e => by cases h with | cons h1 _ => simp at e; subst e; exact ⟨_, rfl, h1⟩
  | _, _ :: _, i + 1, _, h, e => by cases h with | cons _ h2 => simpa using RpSs.get h2 (by simpa using e)
/-- the slots at a def's entry -/
def entry (l : List Slot) (k : Nat) : List Slot := l ++ List.replicate k .un
theorem Rel.entry {O : Av} {H : Hp} {vs : List V} {l : List Slot} {N : List Str} (hl : RpSs R O H vs l) (hk : l.length ≤ N.length) (hz : ∀ x, Zr R x → O x) (hd : ∀ x, O x → H x ≠ none) : Rel R O H (fun _ => 0) (Pz.entry l (N.length - l.length)) (L2.start N vs) H := by
  have len := hl.length
  have noow : ∀ (i : Nat) (d : PyData), (Pz.entry l (N.length - l.length))[i]? ≠ some (.ow d) := fun i d e => by
    unfold Pz.entry at e
    by_cases h : i < l.length
    · rw [List.getElem?_append_left h] at e
      obtain ⟨v, _, r⟩ := hl.get e
      exact r
    · rw [List.getElem?_append_right (by omega)] at e
      have := List.mem_of_getElem? e
      rw [List.mem_replicate] at this
      cases this.2
  have at_ : ∀ {i : Nat} {s : Slot}, (Pz.entry l (N.length - l.length))[i]? = some s → s ≠ .un → ∃ v, (L2.start N vs)[i]? = some (some v) ∧ RpS R O H v s := fun {i s} e n => by
    unfold Pz.entry at e
    by_cases h : i < l.length
    · rw [List.getElem?_append_left h] at e
      obtain ⟨v, a, r⟩ := hl.get e
      refine ⟨v, ?_, r⟩
      unfold L2.start
      rw [List.getElem?_append_left (by rw [List.length_map]; omega), List.getElem?_map, a]
      rfl
    · rw [List.getElem?_append_right (by omega)] at e
      have := List.mem_of_getElem? e
      rw [List.mem_replicate] at this
      exact absurd this.2 n
  refine ⟨?_, fun i d e => ?_, fun i d e => absurd e (noow i d), fun i e => ?_, fun i j d d' e => absurd e (noow i d), Keep.refl H, hz, hd⟩
  · unfold Pz.entry L2.start
    simp only [List.length_append, List.length_replicate, List.length_map]
    omega
  · obtain ⟨v, a, r⟩ := at_ e (by simp)
    exact ⟨v, a, Rp.less (show Rp O H v d from r) fun x z => by
      rcases z with z | ⟨j, d', e', _⟩
      · exact z
      · exact absurd e' (noow j d')⟩
  · obtain ⟨v, a, b, c, e1, e2⟩ := at_ e (by simp)
    subst e2
    exact ⟨b, c, e1, a⟩
/-- the context of a def's body -/
abbrev BX (P : Program) (w : World) (K : PySem.W.Frag) (mg : Str → Option Value) (base : Heap) (N : List Str) (qual : Str) (st : Stmt) (f : Addr) (cdv : Value) (A : Around) (outer : List Env) (s : Shared) (H : Hp) (E : XK) : Cx :=
  (cxOf CX0 P w K mg base N qual (defScope st) f cdv A outer s H E).nox
theorem fn_ok {P : Program} {w : World} {K : PySem.W.Frag} {mg : Str → Option Value} {base : Heap} {x qual : Str} {st : Stmt} {f : Addr} {fd : FuncData} {N ps : List Str} {k : Nat} (F : Fun K x qual st f fd) (S : FnScope N ps (defScope st))
    (en : α → List Slot) (er : ρ → PyData) (g : α → M ρ) (Γ0 : α → List Slot) (hn : ∀ a, (en a).length = ps.length) (hΓ : ∀ a, Pz.entry (en a) (N.length - ps.length) = Γ0 a)
    (body : ∀ (cdv : Value) (A : Around) (outer : List Env) (s : Shared) (H : Hp) (E : XK) (R : Res) (a : α), Room k (A.deeper (envOfC qual (defScope st) s.heap.objs.size f cdv)) → SJ (BX P w K mg base N qual st f cdv A outer s H E) R (Γ0 a) (defBody st) (fun r => .rt (er r)) (g a)) :
    FnOk P w K mg base CX0 (k + 1) f fd ps (SpM en er g) := by
  have hpl : ps.length ≤ N.length := by have := congrArg List.length S.pre; rw [List.length_take] at this; omega
  refine F.ok S (fun vs H Q E ⟨R, O, a, st, r, st', _, _, _, h, _⟩ => by rw [h.length, hn]) (fun cdv A outer s H vs Q E hr h => ?_)
  obtain ⟨R, O, a, u, r, u', hz, hd, ok, hl, e, q⟩ := h
  refine ⟨_, body cdv A outer s H E R a hr, O, H, fun _ => 0, u, r, u', ?_, ok, e, q⟩
  rw [← hΓ a]
  have := Rel.entry (N := N) hl (by rw [hn]; exact hpl) hz hd
  rw [hn] at this
  exact this
/-- f(..) -/
theorem e_call {k : Nat} {f : Addr} {fd : FuncData} {ps : List Str} {x : Str} {p : Pos} {e0 : Expr} {es : List Expr} {en : α → List Slot} {g : α → M ρ} {ma : M α} (F : FnOk X.prog X.w X.K X.mg X.base CX0 k f fd ps (SpM en er g)) (hr : Room k X.A) (hm : X.mg x = some (.ref f)) (hk : PySem.W.keepIn X.K (.ref f) = true)
    (hb : Binds X.K fd ps []) (ha : AJ X R Γ (e0 :: es) en ma) (hg : Gl X x := by rfl) (hdb : (x == ("__debug__" : Str)) = false := by decide) (he : starEach (e0 :: es) X.env = (false, eval e0 X.env) :: starEach es X.env := by rfl) (hpl : (backTo pos (starEach es X.env)).any (·.1) = false := by rfl) :
    EJ X R Γ (.Call (.Name x p) (e0 :: es) [] pos) er (bindM ma g) := by
  refine PE.weak (pe_call F hr hg hm hk hb .nil pass0 ha hdb he hpl) fun σ H Q ⟨O, H0, ow, st, z, st', rel, ok, e, q⟩ => ?_
  obtain ⟨a, s1, e1, e2⟩ := bind_some e
  refine ⟨O, H0, ow, st, a, s1, rel, ok, e1, fun vs H1 k1 o1 r1 => ?_⟩
  have rel1 := rel.grow k1 (okZ o1)
  refine ⟨R, avo O Γ ow, a, s1, z, st', fun x h => rel1.zavo h, fun x h => rel1.adom h, o1, by rw [List.append_nil]; exact r1, e2, fun v H' k2 o2 r2 => q v H' (k1.trans k2) o2 r2⟩

/-! ### several names at once -/
theorem q_par2 (i j : Nat) {x y : Str} {a b : Expr} {px py pt : Pos} {kt k2 pt2} {eb : β → PyData} {ma : M α} {mb : M β} (ha : EJ X R Γ a ea ma) (hb : EJ X R Γ b eb mb) (hc : X.calm = true) (hN : X.N.Nodup) (hi : X.N[i]? = some x := by rfl) (hj : X.N[j]? = some y := by rfl) (hij : i ≠ j := by decide)
    (hx : X.env.scope.names.lookup x = some .local := by rfl) (hy : X.env.scope.names.lookup y = some .local := by rfl)
    (hw : swappedStores [.Tuple [.Name x px, .Name y py] kt pt] (.Tuple [a, b] k2 pt2) X.env = pure (some [x, y]) := by rfl)
    (hs : swapsWithSole [.Tuple [.Name x px, .Name y py] kt pt] (.Tuple [a, b] k2 pt2) pos.line X.env = pure false := by rfl)
    (hs1 : starEach [a, b] X.env = (false, eval a X.env) :: starEach [b] X.env := by rfl) (hs2 : starEach [b] X.env = (false, eval b X.env) :: starEach [] X.env := by rfl) :
    QJ X R Γ (.Assign [.Tuple [.Name x px, .Name y py] kt pt] (.Tuple [a, b] k2 pt2) pos) (fun p : α × β => .nx ((Γ.set i (.fz (ea p.1))).set j (.fz (eb p.2)))) (bindM ma fun u => bindM mb fun v => pureM (u, v)) := by
  refine PS.weak (ps_par hc hN hi hj hij hx hy (pa_cons ha (pa_cons hb pa_nil hs2) hs1) hw hs) fun D σ H ⟨O, H0, ow, st, z, st', rel, ok, e, q⟩ => ?_
  obtain ⟨u, s1, e1, e2⟩ := bind_some e
  obtain ⟨v, s2, e3, e4⟩ := bind_some e2
  obtain ⟨rfl, rfl⟩ := pure_some e4
  refine ⟨O, H0, ow, st, u, s1, rel, ok, e1, fun vx H1 k1 o1 r1 => ?_⟩
  have rel1 := rel.grow k1 (okZ o1)
  refine ⟨O, H0, ow, s1, v, s2, rel1, o1, e3, fun vy H2 k2 o2 r2 => ?_⟩
  have rel2 := rel1.grow k2 (okZ o2)
  have less : ∀ a, avo O (Γ.set i (.fz (ea u))) ow a → avo O Γ ow a := fun a z => by
    rcases z with z | ⟨l, d, e5, e6⟩
    · exact .inl z
    · exact .inr ⟨l, d, set_noow _ _ e5, e6⟩
  refine ⟨vx, vy, rfl, q ow _ H2 ((rel2.setFz i (r1.keep (rel1.keepA k2))).setFz j (r2.less less)) o2 ⟨rel.keepA (k1.trans k2), fun l d e5 => .inl (.inr ⟨l, d, set_noow _ _ (set_noow _ _ e5), rfl⟩)⟩⟩
/-- a, b, .. = the items of a tuple -/
theorem q_asg {tg : Expr} {set : List Slot → α → List Slot} {is : List Nat} {enc : α → PyData} {m : M α} (he : EJ X R Γ e enc m) (hg : GJ X tg set is enc) (hset : ∀ Γ x (i : Nat) d, (set Γ x)[i]? = some (.ow d) → Γ[i]? = some (.ow d))
    (hs : swapsWithSole [tg] e pos.line X.env = pure false := by rfl) (hw : swappedStores [tg] e X.env = pure none := by rfl) (h1 : (assignEach [tg] X.env).map (·.2) = [assign tg X.env] := by rfl) :
    QJ X R Γ (.Assign [tg] e pos) (fun r => .nx (set Γ r)) m := by
  refine PS.weak (ps_asg he hg hs hw h1) fun D σ H ⟨O, H0, ow, st, z, st', rel, ok, e, q⟩ => ⟨O, H0, ow, st, z, st', rel, ok, e, fun v H' k o rp => ?_⟩
  refine ⟨R, O, H0, ow, Γ, z, rel.grow k (okZ o), rp, fun σ' rel' _ => q ow σ' H' rel' o ⟨rel.keepA k, fun l d e5 => .inl (.inr ⟨l, d, hset _ _ _ _ e5, rfl⟩)⟩⟩
end
end Pz

namespace Pz
open PySem PySem.Spec PyProof.Rows L2

/-! ### defs that are called where no repr is under way -/
structure FnG (P : Program) (w : World) (K : PySem.W.Frag) (mg : Str → Option Value) (base : Heap) (k : Nat) (f : Addr) (fd : FuncData) (ps : List Str) (sp : Sp) : Prop where
  many : ∀ vs H Q E, sp vs H Q E → vs.length = ps.length
  go : ∀ (A : Around) (above : List Env) (s : Shared) (H : Hp) (args : Args) (us : List Value) (vs : List V) (Q : VK) (E : XK), A.guards = some [] → Room k A → Env0 P w K mg base A above s H → BindsTo s fd args (ps.zip us) → Vals vs us →
    sp vs H Q E → codeAny (model P w) A (.call (.ref f) args) (CR CX0 above P w H s Q E) s
theorem FnG.mono {P : Program} {w : World} {K : PySem.W.Frag} {mg : Str → Option Value} {base : Heap} {j k : Nat} {f : Addr} {fd : FuncData} {ps : List Str} {sp : Sp} (F : FnG P w K mg base j f fd ps sp) (h : j ≤ k) : FnG P w K mg base k f fd ps sp :=
  ⟨F.many, fun A above s H args us vs Q E g r => F.go A above s H args us vs Q E g (r.mono h)⟩
theorem FnOk.toG {P : Program} {w : World} {K : PySem.W.Frag} {mg : Str → Option Value} {base : Heap} {k : Nat} {f : Addr} {fd : FuncData} {ps : List Str} {sp : Sp} (F : FnOk P w K mg base CX0 k f fd ps sp) : FnG P w K mg base k f fd ps sp :=
  ⟨F.len, fun A above s H args us vs Q E _ r e b v h => F.run A above s H args us vs Q E r e b v h⟩
section
variable {α β γ κ ρ ι : Type} {ea : α → PyData} {ec : γ → PyData} {er : ρ → PyData} {ei : ι → PyData} {X : Cx} {R : Res} {Γ Γ' : List Slot} {e c : Expr} {pos : Pos}
theorem guards_in {A : Around} {env : Env} : (A.deeper env).guards = A.guards := rfl
theorem g_def {P : Program} {w : World} {K : PySem.W.Frag} {mg : Str → Option Value} {base : Heap} {x qual : Str} {st : Stmt} {f : Addr} {fd : FuncData} {N ps : List Str} {k : Nat} (F : Fun K x qual st f fd) (S : FnScope N ps (defScope st)) {sp : Sp}
    (many : ∀ vs H Q E, sp vs H Q E → vs.length = ps.length)
    (body : ∀ (cdv : Value) (A : Around) (above : List Env) (s : Shared) (H : Hp) (vs : List V) (Q : VK) (E : XK), A.guards = some [] → Room k (A.deeper (envOfC qual (defScope st) s.heap.objs.size f cdv)) → sp vs H Q E →
      ∃ t, PSs (BX P w K mg base N qual st f cdv A above s H E) (defBody st) t ∧ t { nx := fun _ H' => Q .non H', rt := Q } (L2.start N vs) H) : FnG P w K mg base (k + 1) f fd ps sp := by
  obtain ⟨oc, od, kV, doc, pm, an, cdv, ct, osl, rfl, lk, hcd⟩ := F.ex
  refine ⟨many, fun A above s H args us vs Q E hG room env0 binds vals want => ?_⟩
  have cnt := many vs H Q E want
  have inK : K.In s.heap := env0.mod.kin.keeps (fun b o e => (env0.bs b o e).1)
  have noLim : s.heap.NoLimit := env0.mod.nolimit.keeps (fun b o e => (env0.bs b o e).1)
  have kinds : ∀ y ∈ ps.zip us, (defScope st).names.lookup y.1 = some .local ∨ ((defScope st).names.lookup y.1 = some .cell ∧ ((cellsFrom (s.heap.objs.size + 1) (defScope st).names []).lookup y.1).isSome = true) := by
    rintro ⟨n, v⟩ hy
    exact (S.par n (List.of_mem_zip hy).1).elim .inl fun q => .inr ⟨q, PySem.W.cellsFrom_some _ _ _ (.inl q)⟩
  refine codeAny_call_function room.depth (inK _ _ lk) rfl S.co S.gen rfl (PySem.W.codeRec_of inK hcd) (binds _ _ _ _ (wpAny_newFunctionEnv_cells S.kind kinds fun env he s1 begun => ?_))
  subst he
  refine ⟨noLim.keeps begun.toInCall.keep, codeAny_func ?_⟩
  obtain ⟨t, ht, reading⟩ := body cdv A above s H vs Q E hG (room.deeper _) want
  have inv0 : Inv (cxOf CX0 P w K mg base N qual (defScope st) f cdv A above s H E) [] (L2.start N vs) H s1 := inv_start S room.hd env0 cnt vals begun
  refine wpAny_mono (ht.nox.run [] s1 (L2.start N vs) H _ inv0 reading) (fun fl s' hs => ?_) (fun _ _ z => z)
  cases fl with
  | ret u => obtain ⟨v, σ', H', J, rv, q⟩ := hs; exact ⟨v, H', J.os, J.bare, J.base, J.hok, rv, q⟩
  | next => obtain ⟨σ', H', J, q⟩ := hs; exact ⟨V.non, H', J.os, J.bare, J.base, J.hok, rfl, q⟩
  | brk => obtain ⟨_, _, _, q⟩ := hs; exact q.elim
  | cont => obtain ⟨_, _, _, q⟩ := hs; exact q.elim
theorem g_ok {P : Program} {w : World} {K : PySem.W.Frag} {mg : Str → Option Value} {base : Heap} {x qual : Str} {st : Stmt} {f : Addr} {fd : FuncData} {N ps : List Str} {k : Nat} (F : Fun K x qual st f fd) (S : FnScope N ps (defScope st))
    (en : α → List Slot) (er : ρ → PyData) (g : α → M ρ) (Γ0 : α → List Slot) (hn : ∀ a, (en a).length = ps.length) (hΓ : ∀ a, Pz.entry (en a) (N.length - ps.length) = Γ0 a)
    (body : ∀ (cdv : Value) (A : Around) (above : List Env) (s : Shared) (H : Hp) (E : XK) (R : Res) (a : α), A.guards = some [] → Room k (A.deeper (envOfC qual (defScope st) s.heap.objs.size f cdv)) → SJ (BX P w K mg base N qual st f cdv A above s H E) R (Γ0 a) (defBody st) (fun r => .rt (er r)) (g a)) :
    FnG P w K mg base (k + 1) f fd ps (SpM en er g) := by
  have hpl : ps.length ≤ N.length := by have := congrArg List.length S.pre; rw [List.length_take] at this; omega
  refine g_def F S (fun vs H Q E ⟨R, O, a, st, r, st', _, _, _, h, _⟩ => by rw [h.length, hn]) (fun cdv A above s H vs Q E hG hr h => ?_)
  obtain ⟨R, O, a, u, r, u', hz, hd, ok, hl, e, q⟩ := h
  refine ⟨_, body cdv A above s H E R a hG hr, O, H, fun _ => 0, u, r, u', ?_, ok, e, q⟩
  rw [← hΓ a]
  have := Rel.entry (N := N) hl (by rw [hn]; exact hpl) hz hd
  rw [hn] at this
  exact this
/-- x(..), x a def -/
theorem pe_callG {k : Nat} {f : Addr} {fd : FuncData} {ps : List Str} {sp : Sp} {x : Str} {p : Pos} {e0 : Expr} {es : List Expr} {t : TA} (F : FnG X.prog X.w X.K X.mg X.base k f fd ps sp) (hG : X.A.guards = some []) (hr : Room k X.A) (hg : Gl X x) (hm : X.mg x = some (.ref f)) (hk : PySem.W.keepIn X.K (.ref f) = true)
    (hb : Binds X.K fd ps []) (ha : PA X (e0 :: es) t) (hdb : (x == ("__debug__" : Str)) = false) (he : starEach (e0 :: es) X.env = (false, eval e0 X.env) :: starEach es X.env) (hpl : (backTo pos (starEach es X.env)).any (·.1) = false) :
    PE X (.Call (.Name x p) (e0 :: es) [] pos) (fun σ H Q => t σ H fun vs H1 => sp vs H1 Q E0) := by
  constructor
  intro pins s σ H Q inv want
  refine wpAny_Call_Name_kw (ld_glob inv hg hm ?_ hdb)
  refine PySem.W.callWith_K (h₀ := X.base) inv.ok.mod.kin hk (wpAny_mono (ha.run pos pins s σ H _ inv want) (fun us s1 w1 => ?_) fun _ _ z => z) he hpl
  obtain ⟨vs, H1, inv1, vals, q⟩ := w1
  refine ⟨inv1.kIn, ?_⟩
  have cnt : (us ++ []).length = ps.length := by rw [List.append_nil, ← vals.length]; exact F.many _ _ _ _ q
  have bt := hb s1 us inv1.kIn cnt
  rw [List.append_nil] at bt
  refine wpAny_call (codeAny_mono (F.go X.A X.stack s1 H1 ⟨us, []⟩ us vs Q E0 hG hr inv1.env0 bt vals q) fun r s2 back => ?_)
  cases r with
  | error e => exact False.elim back
  | ok fl =>
    cases fl with
    | ret u => exact inv1.after back
    | next => exact False.elim back
    | brk => exact False.elim back
    | cont => exact False.elim back
theorem e_callG {k : Nat} {f : Addr} {fd : FuncData} {ps : List Str} {x : Str} {p : Pos} {e0 : Expr} {es : List Expr} {en : α → List Slot} {g : α → M ρ} {ma : M α} (F : FnG X.prog X.w X.K X.mg X.base k f fd ps (SpM en er g)) (hG : X.A.guards = some []) (hr : Room k X.A) (hm : X.mg x = some (.ref f)) (hk : PySem.W.keepIn X.K (.ref f) = true)
    (hb : Binds X.K fd ps []) (ha : AJ X R Γ (e0 :: es) en ma) (hg : Gl X x := by rfl) (hdb : (x == ("__debug__" : Str)) = false := by decide) (he : starEach (e0 :: es) X.env = (false, eval e0 X.env) :: starEach es X.env := by rfl) (hpl : (backTo pos (starEach es X.env)).any (·.1) = false := by rfl) :
    EJ X R Γ (.Call (.Name x p) (e0 :: es) [] pos) er (bindM ma g) := by
  refine PE.weak (pe_callG F hG hr hg hm hk hb ha hdb he hpl) fun σ H Q ⟨O, H0, ow, st, z, st', rel, ok, e, q⟩ => ?_
  obtain ⟨a, s1, e1, e2⟩ := bind_some e
  refine ⟨O, H0, ow, st, a, s1, rel, ok, e1, fun vs H1 k1 o1 r1 => ?_⟩
  have rel1 := rel.grow k1 (okZ o1)
  exact ⟨R, avo O Γ ow, a, s1, z, st', fun x h => rel1.zavo h, fun x h => rel1.adom h, o1, r1, e2, fun v H' k2 o2 r2 => q v H' (k1.trans k2) o2 r2⟩
end

/-! ### the law's own call -/
/-- what the law's def promises: True, whatever the script -/
def SpLaw (K : PySem.W.Frag) : Sp := fun vs H Q _ => ∃ (a : Addr) (ns : List Int), vs = [.ref a] ∧ SqL K H a (ns.map V.int) ∧ ns.length ≤ 63 ∧ Only H ∧ ∀ H', Q (.bl true) H'
theorem law_goes {P : Program} {w : World} {K : PySem.W.Frag} {mg mb : Str → Option Value} {k : Nat} {fa a : Addr} {fd : FuncData} {x : Str} {s1 : Shared} {vs : List Value} {ns : List Int} (KX : K.In s1.heap) (gl : s1.heap.Ns mainGlobals mg) (bl : s1.heap.Ns builtinsNs mb)
    (boot : ∀ x : Str, x ≠ "__name__" → mb x = bootBuiltins x) (noLim : s1.heap.NoLimit) (gens : s1.gens = #[]) (ha : s1.heap.get? a = some { cls := .type "list", data := .seq vs.toArray }) (areInts : IntsAre vs ns) (few : ns.length ≤ 63) (hr : Room k callerA)
    (F : ∀ base : Heap, K.In base → base.Ns mainGlobals mg → FnG P w K mg base k fa fd [x] (SpLaw K)) (bind : ∀ (s : Shared) (u : Value), BindsTo s fd ⟨[u], []⟩ [(x, u)]) :
    codeAny (model P w) callerA (.call (.ref fa) ⟨[.ref a], []⟩) (fun r s' => r = .ok (.ret (.bool true)) ∧ OldK s1.heap s'.heap ∧ s'.os = s1.os ∧ AllBare s'.gens) s1 := by
  have vi := vals_ints areInts
  have small : ns.length ≤ sizeLine := Nat.le_trans few (by decide)
  have main : ∀ H : Hp, Only H → SqL K H a (ns.map V.int) → HOk P w H s1.heap → (∀ b, H b ≠ none → b = a) → (H a ≠ none → K.lookup a = none) →
      codeAny (model P w) callerA (.call (.ref fa) ⟨[.ref a], []⟩) (fun r s' => r = .ok (.ret (.bool true)) ∧ OldK s1.heap s'.heap ∧ s'.os = s1.os ∧ AllBare s'.gens) s1 := by
    intro H only sq hok just inKey
    have untouched : ∀ {b : Addr} {o : Obj} {es : Array DictEntry} {ep : Nat}, s1.heap.get? b = some o → o.data = .dict es ep → H b = none := by
      intro b o es ep e d
      by_cases q : H b = none
      · exact q
      · have := just b q
        subst this
        rw [ha] at e
        cases e
        cases (show Data.seq vs.toArray _ = Data.dict es ep from d)
    have nsB : ∀ {b : Addr} {m : Str → Option Value}, s1.heap.Ns b m → (hidT s1.heap H).Ns b m := by
      rintro b m ⟨o, es, ep, e, d, r⟩
      exact ⟨o, es, ep, hidT_get e (untouched e d), d, r⟩
    have inB : K.In (hidT s1.heap H) := by
      intro b o e
      refine hidT_get (KX b o e) ?_
      by_cases q : H b = none
      · exact q
      · have := just b q
        subst this
        rw [inKey q] at e
        cases e
    have md : Mod K mg (hidT s1.heap H) := ⟨inB, nsB gl, ⟨mb, nsB bl, boot⟩, noLim.elim fun mc h => ⟨mc, nsB h.1, h.2⟩⟩
    have start0 : Env0 P w K mg (hidT s1.heap H) callerA [] s1 H := ⟨rfl, md, fun b o e => of_hidT e, Nat.le_of_eq (hidT_size _ _), trivial, fun b hb => (nomatch (show b ∈ ([] : List Addr) from hb)), hok, .of_eq gens⟩
    refine codeAny_mono ((F _ inB (nsB gl)).go callerA [] s1 H ⟨[.ref a], []⟩ [.ref a] [.ref a] (fun v _ => v = .bl true) E0 rfl hr start0 (bind s1 (.ref a)) (.cons rfl .nil) ⟨a, _, rfl, sq, few, only, fun _ => rfl⟩) fun r s' back => ?_
    cases r with
    | error e => exact False.elim back
    | ok fl =>
      cases fl with
      | next => exact False.elim back
      | brk => exact False.elim back
      | cont => exact False.elim back
      | ret u =>
        obtain ⟨v, H', os, bare, un, hok', rv, (rfl : v = .bl true)⟩ := back
        obtain rfl : u = Value.bool true := rv
        refine ⟨rfl, OldK.of_keep fun b o e => ?_, os, bare⟩
        by_cases q : H b = none
        · exact un.keep b o e q (fun z => nomatch (show b ∈ ([] : List Addr) from z)) (by simp)
        · rcases only b with z | ⟨_, _, z⟩
          · exact absurd z q
          · have first := (hok b _ z).1
            rw [e] at first
            cases first
            exact (hok' b _ (un.frzs b _ _ z)).1
  by_cases hk : K.lookup a = none
  · refine main (fun b => if b = a then some (.frz { cls := .type "list", data := .seq vs.toArray } (.lst (ns.map V.int))) else none) (fun b => ?_) (.inl (.inr ⟨{ cls := .type "list", data := .seq vs.toArray }, if_pos rfl⟩)) (fun b u z => ?_) (fun b z => ?_) (fun _ => hk)
    · by_cases hb : b = a
      · exact .inr ⟨_, _, if_pos hb⟩
      · exact .inl (if_neg hb)
    · by_cases hb : b = a
      · cases (if_pos hb).symm.trans z
        rw [hb]
        exact ⟨ha, by rw [List.length_map]; exact small, vs, _, vi, ha⟩
      · cases (if_neg hb).symm.trans z
    · exact Decidable.by_contra fun hb => z (if_neg hb)
  · obtain ⟨o, ho⟩ := Option.ne_none_iff_exists'.mp hk
    have e := KX a o ho
    rw [ha] at e
    cases e
    have lenV := areInts.length
    exact main (fun _ => none) (fun _ => .inl rfl) (.inr ⟨_, vs.toArray, _, ho, rfl, rfl, rfl, by rw [List.size_toArray, lenV]; exact small, by simpa using vi⟩) (fun b u z => nomatch (show (none : Option HO) = some u from z)) (fun b z => absurd rfl z) fun z => absurd rfl z
/-- the goal that k_head leaves, from the law's promise -/
theorem law_walk {l : PySem.W.OpenLaw} {k : Nat} {q : Program} {loose : List Str} {XP : (Str → Option Value) → Heap → Prop} {YP : World → Heap → Prop} {d : DefRec} {K : Params → PySem.W.Frag} {x : Str} (hn : l.most = some 63) (hdf : d.params.defaults = []) (hr : Room k callerA)
    (hY : ∀ (w : World) (h : Heap), YP w h → (K w.params).In h)
    (F : ∀ (w : World) (mg : Str → Option Value) (fa : Addr) (h : Heap), (K w.params).In h → h.Ns mainGlobals mg → mg d.name = some (.ref fa) →
      ∃ fd : FuncData, (∀ (s : Shared) (u : Value), BindsTo s fd ⟨[u], []⟩ [(x, u)]) ∧ ∀ base : Heap, (K w.params).In base → base.Ns mainGlobals mg → FnG l.prog w (K w.params) mg base k fa fd [x] (SpLaw (K w.params))) :
    PySem.W.WalkO q loose XP YP l.row.toRowW d [] (fun f vs => PySem.call f vs) :=
  Att.attach_call hn hdf fun w s0 s1 mg mb fa o pm cd doc a vs ns G Y _ _ _ hmg hobj hints hlen hg => by
    obtain ⟨fd, hb, hF⟩ := F w mg fa _ (hY w _ Y) G.T.g hmg
    exact law_goes (hY w _ Y) G.T.g G.T.b G.T.builtins G.T.nolimit hg hobj hints hlen hr hF hb
end Pz

namespace Pz
open PySem PySem.Spec PyProof.Rows L2

section
variable {α β γ δ ρ : Type} {ea : α → PyData} {eb : β → PyData} {ec : γ → PyData} {X : Cx} {R : Res} {Γ : List Slot} {e a b c : Expr} {pos : Pos}
/-! ### ints -/
theorem v_int2 {g : Int → Int → Int} : VOp (rI0 fun i j => .int (g i j)) eInt eInt eInt (fun x y => some (g x y)) := fun A H x y vx vy Q z ad r1 r2 e q => by
  cases r1; cases r2; cases e
  exact ⟨_, _, rfl, rfl, q _ H (Same.refl H) (.int _)⟩
theorem v_cmp2 {g : Int → Int → Bool} : VOp (rI0 fun i j => .bl (g i j)) eInt eInt eBool (fun x y => some (g x y)) := fun A H x y vx vy Q z ad r1 r2 e q => by
  cases r1; cases r2; cases e
  exact ⟨_, _, rfl, rfl, q _ H (Same.refl H) (.bl _)⟩
def mulO (x y : Int) : Option Int := if x.natAbs < 2 ^ 64 ∨ y.natAbs < 2 ^ 64 then some (x * y) else none
def divO (x y : Int) : Option Int := if y ≠ 0 ∧ y.natAbs < 1073741824 then some (x.fdiv y) else none
def modO (x y : Int) : Option Int := if y ≠ 0 then some (x.fmod y) else none
def powO (x y : Int) : Option Int := if 0 ≤ y ∧ y ≤ 1000000 ∧ x.natAbs < 2 ^ 64 then some (x ^ y.toNat) else none
def shlO (x y : Int) : Option Int := if 0 ≤ y ∧ y ≤ 1000000 ∧ x.natAbs < 2 ^ 64 then some (x * 2 ^ y.toNat) else none
theorem oif {α : Type} {p : Prop} [Decidable p] {a b : α} (h : (if p then some a else none) = some b) : p ∧ a = b := by
  by_cases hp : p
  · rw [if_pos hp] at h; exact ⟨hp, Option.some.inj h⟩
  · rw [if_neg hp] at h; cases h
theorem v_mul : VOp (rI CMul fun i j => .int (i * j)) eInt eInt eInt mulO := fun A H x y vx vy Q z ad r1 r2 e q => by
  cases r1; cases r2
  obtain ⟨h, rfl⟩ := oif e
  refine ⟨_, _, rfl, rfl, ?_, q _ H (Same.refl H) (.int _)⟩
  rcases h with h | h
  · left; omega
  · right; omega
theorem v_div : VOp (rI CDivN fun i j => .int (i.fdiv j)) eInt eInt eInt divO := fun A H x y vx vy Q z ad r1 r2 e q => by
  cases r1; cases r2
  obtain ⟨h, rfl⟩ := oif e
  exact ⟨_, _, rfl, rfl, h, q _ H (Same.refl H) (.int _)⟩
theorem v_mod : VOp (rI (fun _ j => j ≠ 0) fun i j => .int (i.fmod j)) eInt eInt eInt modO := fun A H x y vx vy Q z ad r1 r2 e q => by
  cases r1; cases r2
  obtain ⟨h, rfl⟩ := oif e
  exact ⟨_, _, rfl, rfl, h, q _ H (Same.refl H) (.int _)⟩
theorem v_pow : VOp (rI CPow fun i j => .int (i ^ j.toNat)) eInt eInt eInt powO := fun A H x y vx vy Q z ad r1 r2 e q => by
  cases r1; cases r2
  obtain ⟨h, rfl⟩ := oif e
  exact ⟨_, _, rfl, rfl, h, q _ H (Same.refl H) (.int _)⟩
theorem v_shl : VOp (rI CPow fun i j => .int (i * 2 ^ j.toNat)) eInt eInt eInt shlO := fun A H x y vx vy Q z ad r1 r2 e q => by
  cases r1; cases r2
  obtain ⟨h, rfl⟩ := oif e
  exact ⟨_, _, rfl, rfl, h, q _ H (Same.refl H) (.int _)⟩
theorem v_neg : V1 (rU fun i => .int (-i)) eInt eInt (fun x => some (-x)) := fun A H x vx Q z ad r1 e q => by
  cases r1; cases e
  exact ⟨_, rfl, q _ H (Same.refl H) (.int _)⟩
/-- the same of numbers, texts, truth values -/
theorem v_eqS [DecidableEq α] (f : α → V) (hf : ∀ (A : Av) (H : Hp) x v, Rp A H v (ea x) → v = f x) (hs : ∀ x y, scal (f x) (f y) = true) (hi : ∀ x y, f x = f y → x = y) : VOp rEq ea ea eBool (fun x y => some (decide (x = y))) := fun A H x y vx vy Q z ad r1 r2 e q => by
  cases e
  have e1 := hf _ _ _ _ r1
  have e2 := hf _ _ _ _ r2
  subst e1 e2
  refine ⟨hs _ _, ?_⟩
  rw [show decide (f x = f y) = decide (x = y) from decide_eq_decide.mpr ⟨hi x y, fun z => by rw [z]⟩]
  exact q _ H (Same.refl H) (.bl _)
theorem v_neS [DecidableEq α] (f : α → V) (hf : ∀ (A : Av) (H : Hp) x v, Rp A H v (ea x) → v = f x) (hs : ∀ x y, scal (f x) (f y) = true) (hi : ∀ x y, f x = f y → x = y) : VOp rNe ea ea eBool (fun x y => some (!decide (x = y))) := fun A H x y vx vy Q z ad r1 r2 e q => by
  cases e
  have e1 := hf _ _ _ _ r1
  have e2 := hf _ _ _ _ r2
  subst e1 e2
  refine ⟨hs _ _, ?_⟩
  rw [show decide (f x = f y) = decide (x = y) from decide_eq_decide.mpr ⟨hi x y, fun z => by rw [z]⟩]
  exact q _ H (Same.refl H) (.bl _)
theorem v_eqI : VOp rEq eInt eInt eBool (fun x y => some (decide (x = y))) := v_eqS V.int (fun A H x v r => by cases r; rfl) (fun _ _ => rfl) fun x y h => by cases h; rfl
theorem v_neI : VOp rNe eInt eInt eBool (fun x y => some (!decide (x = y))) := v_neS V.int (fun A H x v r => by cases r; rfl) (fun _ _ => rfl) fun x y h => by cases h; rfl
theorem v_eqB : VOp rEq eBool eBool eBool (fun x y => some (decide (x = y))) := v_eqS V.bl (fun A H x v r => by cases r; rfl) (fun _ _ => rfl) fun x y h => by cases h; rfl
theorem v_neB : VOp rNe eBool eBool eBool (fun x y => some (!decide (x = y))) := v_neS V.bl (fun A H x v r => by cases r; rfl) (fun _ _ => rfl) fun x y h => by cases h; rfl
theorem v_eqT : VOp rEq eStr eStr eBool (fun x y => some (decide (x = y))) := v_eqS V.str (fun A H x v r => by cases r; rfl) (fun _ _ => rfl) fun x y h => by cases h; rfl
theorem v_neT : VOp rNe eStr eStr eBool (fun x y => some (!decide (x = y))) := v_neS V.str (fun A H x v r => by cases r; rfl) (fun _ _ => rfl) fun x y h => by cases h; rfl

/-! ### data as a whole -/
mutual
def noLst : PyData → Bool
  | .list _ => false
  | .dict kvs => kvs.isEmpty
  | .tuple ds => noLsts ds
  | _ => true
def noLsts : List PyData → Bool
  | [] => true
  | d :: ds => noLst d && noLsts ds
end
mutual
theorem Rp.reads {pins : List (Addr × Obj)} {σ : L2.St} {H : Hp} {s : Shared} {A : Av} (I : Inv X pins σ H s) : ∀ (d : PyData) (v : V) (u : Value), Rp A H v d → RelV v u → ∃ as, Reads s.heap u d as ∧ (noLst d = true → sysModules ∉ as)
  | .none, _, _, h, r => by cases h; cases r; exact ⟨_, .none, by simp⟩
  | .bool b, _, _, h, r => by cases h; cases r; exact ⟨_, .bool b, by simp⟩
  | .int i, _, _, h, r => by cases h; obtain ⟨t, rfl⟩ := r; exact ⟨_, .int i t, by simp⟩
  | .str x, _, _, h, r => by cases h; obtain ⟨t, rfl⟩ := r; exact ⟨_, .str x t, by simp⟩
  | .list ds, _, _, h, r => by
    cases h with
    | @lst a vs _ na ha hr =>
      cases r
      obtain ⟨_, its, n, rv, ho⟩ := I.hok _ _ ha
      obtain ⟨as, q1, q2⟩ := RpAll.reads I ds _ its hr rv
      exact ⟨_, .list ho rfl rfl q1, by simp [noLst]⟩
  | .tuple ds, _, _, h, r => by
    cases h with
    | @tup a vs _ na ha hr =>
      cases r
      obtain ⟨_, its, rv, o, ho, hc, n, hd⟩ := I.hok _ _ ha
      obtain ⟨as, q1, q2⟩ := RpAll.reads I ds _ its hr rv
      exact ⟨_, .tuple ho hc hd q1, by simpa [noLst] using q2⟩
  | .dict _, _, _, h, r => by
    cases h with
    | @dic a na ha =>
      cases r
      obtain ⟨_, hs, vs, kv, o, es, ep, ho, hx, hd, he, hp, _⟩ := I.hok _ _ ha
      cases kv
      have e0 : es.toList = [] := by
        cases h0 : es.toList with
        | nil => rfl
        | cons a r => rw [h0] at hp; cases hp
      refine ⟨_, .dict (kvs := []) ho hx.1 hd (by rw [e0]; exact .nil) (by rw [e0]; exact .nil), fun _ z => ?_⟩
      have : sysModules = a := by simpa using z
      rw [← this] at hs
      simp at hs
theorem RpAll.reads {pins : List (Addr × Obj)} {σ : L2.St} {H : Hp} {s : Shared} {A : Av} (I : Inv X pins σ H s) : ∀ (ds : List PyData) (vs : List V) (us : List Value), RpAll A H vs ds → Vals vs us → ∃ as, ReadsAll s.heap us ds as ∧ (noLsts ds = true → sysModules ∉ as)
  | [], _, _, h, r => by cases h; cases r; exact ⟨_, .nil, by simp⟩
  | d :: ds, _, _, h, r => by
    cases h with
    | cons h1 h2 =>
      cases r with
      | cons r1 r2 =>
        obtain ⟨as, q1, n1⟩ := Rp.reads I d _ _ h1 r1
        obtain ⟨bs, q2, n2⟩ := RpAll.reads I ds _ _ h2 r2
        refine ⟨_, .cons q1 q2, fun h => ?_⟩
        simp only [noLsts, Bool.and_eq_true] at h
        rw [List.mem_append]
        exact fun z => z.elim (n1 h.1) (n2 h.2)
end
/-- encodings whose data are equal just where the Lean values are -/
structure Dc (n : Nat) [DecidableEq α] (e : α → PyData) : Prop where
  plain : ∀ x, (e x).plain = true
  depth : ∀ x, (e x).depth ≤ n
  eqv : ∀ x y, PyData.eqv (e x) (e y) = decide (x = y)
theorem Dc.int {n : Nat} : Dc n eInt := ⟨fun _ => rfl, fun x => by simp [eInt, PyData.depth], fun x y => by simp [eInt, PyData.eqv]; exact Bool.beq_eq_decide_eq x y⟩
theorem Dc.bool {n : Nat} : Dc n eBool := ⟨fun _ => rfl, fun x => by simp [eBool, PyData.depth], fun x y => by simp [eBool, PyData.eqv]; exact Bool.beq_eq_decide_eq x y⟩
theorem Dc.str {n : Nat} : Dc n eStr := ⟨fun _ => rfl, fun x => by simp [eStr, PyData.depth], fun x y => by simp [eStr, PyData.eqv]; exact Bool.beq_eq_decide_eq x y⟩
theorem Dc.mono {n m : Nat} [DecidableEq α] (h : Dc n ea) (k : n ≤ m) : Dc m ea := ⟨h.plain, fun x => Nat.le_trans (h.depth x) k, h.eqv⟩
theorem Dc.plainAll {n : Nat} [DecidableEq α] (h : Dc n ea) : ∀ xs : List α, PyData.plainAll (xs.map ea) = true
  | [] => rfl
  | x :: xs => by simp [PyData.plainAll, h.plain x, Dc.plainAll h xs]
theorem Dc.depthAll {n : Nat} [DecidableEq α] (h : Dc n ea) : ∀ xs : List α, PyData.depthAll (xs.map ea) ≤ n
  | [] => Nat.zero_le _
  | x :: xs => by
    have h1 := h.depth x
    have h2 := Dc.depthAll h xs
    simp only [List.map_cons, PyData.depthAll]
    omega
theorem Dc.eqvAll {n : Nat} [DecidableEq α] (h : Dc n ea) : ∀ xs ys : List α, PyData.eqvAll (xs.map ea) (ys.map ea) = decide (xs = ys)
  | [], [] => by simp [PyData.eqvAll]
  | [], _ :: _ => by simp [PyData.eqvAll]
  | _ :: _, [] => by simp [PyData.eqvAll]
  | x :: xs, y :: ys => by simp [PyData.eqvAll, h.eqv x y, Dc.eqvAll h xs ys, Bool.decide_and]
theorem Dc.tup {n : Nat} [DecidableEq α] (h : Dc n ea) : Dc (n + 1) (eT ea) := ⟨fun xs => by simp [eT, PyData.plain, h.plainAll xs], fun xs => by have := h.depthAll xs; simp only [eT, PyData.depth]; omega, fun xs ys => by simp [eT, PyData.eqv, h.eqvAll xs ys]⟩
theorem Dc.lst {n : Nat} [DecidableEq α] (h : Dc n ea) : Dc (n + 1) (eL ea) := ⟨fun xs => by simp [eL, PyData.plain, h.plainAll xs], fun xs => by have := h.depthAll xs; simp only [eL, PyData.depth]; omega, fun xs ys => by simp [eL, PyData.eqv, h.eqvAll xs ys]⟩
structure Dcs (n : Nat) [DecidableEq α] (f : α → List PyData) : Prop where
  plain : ∀ x, PyData.plainAll (f x) = true
  depth : ∀ x, PyData.depthAll (f x) ≤ n
  eqv : ∀ x y, PyData.eqvAll (f x) (f y) = decide (x = y)
theorem Dcs.nil {n : Nat} : Dcs n eU := ⟨fun _ => rfl, fun _ => Nat.zero_le _, fun x y => by simp [eU, PyData.eqvAll]⟩
theorem Dcs.cons {n : Nat} [DecidableEq α] [DecidableEq β] {f : β → List PyData} (h : Dc n ea) (k : Dcs n f) : Dcs n (eC ea f) := ⟨fun p => by simp [eC, PyData.plainAll, h.plain, k.plain], fun p => by have h1 := h.depth p.1; have h2 := k.depth p.2; simp only [eC, PyData.depthAll]; omega, fun p q => by
  obtain ⟨a, b⟩ := p
  obtain ⟨c, d⟩ := q
  simp [eC, PyData.eqvAll, h.eqv, k.eqv, Bool.decide_and]⟩
theorem Dc.pr {n : Nat} [DecidableEq α] {f : α → List PyData} (h : Dcs n f) : Dc (n + 1) (eP f) := ⟨fun p => by simp [eP, PyData.plain, h.plain], fun p => by have := h.depth p; simp only [eP, PyData.depth]; omega, fun p q => by simp [eP, PyData.eqv, h.eqv]⟩

/-- ==, != of data -/
def rEqP : R2 := fun x y H Q => ∃ A d e, Rp A H x d ∧ Rp A H y e ∧ d.plain = true ∧ e.plain = true ∧ d.depth ≤ 60 ∧ Q (.bl (PyData.eqv d e)) H
def rNeP : R2 := fun x y H Q => ∃ A d e, Rp A H x d ∧ Rp A H y e ∧ d.plain = true ∧ e.plain = true ∧ d.depth ≤ 60 ∧ Q (.bl (!PyData.eqv d e)) H
theorem op_eqP (hu : X.A.units + 64 < cLine) : OpR X (compareOp .Eq) rEqP := fun pins s σ H x y v u Q I rx ry h => by
  obtain ⟨A, d, e, hd, he, p1, p2, dp, q⟩ := h
  obtain ⟨as, r1, _⟩ := Rp.reads I d x v hd rx
  obtain ⟨bs, r2, _⟩ := Rp.reads I e y u he ry
  exact SeqAt.eq_plain r1 r2 p1 p2 (by omega) ⟨.bl _, H, I, rfl, q⟩
theorem op_neP (hu : X.A.units + 64 < cLine) : OpR X (compareOp .NotEq) rNeP := fun pins s σ H x y v u Q I rx ry h => by
  obtain ⟨A, d, e, hd, he, p1, p2, dp, q⟩ := h
  obtain ⟨as, r1, _⟩ := Rp.reads I d x v hd rx
  obtain ⟨bs, r2, _⟩ := Rp.reads I e y u he ry
  exact SeqAt.ne_plain r1 r2 p1 p2 (by omega) ⟨.bl _, H, I, rfl, q⟩
theorem v_eqP {n : Nat} [DecidableEq α] (h : Dc n ea) (hn : n ≤ 60 := by decide) : VOp rEqP ea ea eBool (fun x y => some (decide (x = y))) := fun A H x y vx vy Q z ad r1 r2 e q => by
  cases e
  refine ⟨A, _, _, r1, r2, h.plain _, h.plain _, Nat.le_trans (h.depth _) hn, ?_⟩
  rw [h.eqv]
  exact q _ H (Same.refl H) (.bl _)
theorem v_neP {n : Nat} [DecidableEq α] (h : Dc n ea) (hn : n ≤ 60 := by decide) : VOp rNeP ea ea eBool (fun x y => some (!decide (x = y))) := fun A H x y vx vy Q z ad r1 r2 e q => by
  cases e
  refine ⟨A, _, _, r1, r2, h.plain _, h.plain _, Nat.le_trans (h.depth _) hn, ?_⟩
  rw [h.eqv]
  exact q _ H (Same.refl H) (.bl _)
/-- .. of any data -/
def eqD (d e : PyData) : Option Bool := if d.plain = true ∧ e.plain = true ∧ d.depth ≤ 60 then some (PyData.eqv d e) else none
theorem v_eqD : VOp rEqP ea eb eBool (fun x y => eqD (ea x) (eb y)) := fun A H x y vx vy Q z ad r1 r2 e q => by
  obtain ⟨⟨h1, h2, h3⟩, rfl⟩ := oif e
  exact ⟨A, _, _, r1, r2, h1, h2, h3, q _ H (Same.refl H) (.bl _)⟩
theorem v_neD : VOp rNeP ea eb eBool (fun x y => (eqD (ea x) (eb y)).map (!·)) := fun A H x y vx vy Q z ad r1 r2 e q => by
  obtain ⟨b, e1, rfl⟩ := Option.map_eq_some_iff.mp e
  obtain ⟨⟨h1, h2, h3⟩, rfl⟩ := oif e1
  exact ⟨A, _, _, r1, r2, h1, h2, h3, q _ H (Same.refl H) (.bl _)⟩

/-! ### repr -/
def reprO (d : PyData) : Option Str := if d.showable = true ∧ (d.hasDict = true → noLst d = true) ∧ d.depth ≤ 60 ∧ d.shown.length ≤ sizeLine then some d.shown else none
def rRepr : List V → Hp → VK → Prop := fun xs H Q => ∃ A x d z, xs = [x] ∧ Rp A H x d ∧ reprO d = some z ∧ Q (.str z) H
theorem call_reprD (hu : X.A.units + 64 < cLine) (hg : X.A.guards = some []) : CallR X (.builtin "repr") rRepr := fun pins s σ H xs us Q I r h => by
  obtain ⟨A, x, d, z, rfl, hd, e, q⟩ := h
  obtain ⟨u, rfl, ru⟩ := vals1 r
  obtain ⟨⟨h1, h2, h3, h4⟩, rfl⟩ := oif e
  have fin : ∀ h' t tk, (∀ b o, s.heap.get? b = some o → h'.get? b = some o) → EP X pins σ Q (.str d.shown t) { s with heap := h', toks := tk } := fun h' t tk k => ⟨.str d.shown, H, I.kept k, ⟨_, rfl⟩, q⟩
  have fin0 : ∀ t tk, EP X pins σ Q (.str d.shown t) { s with toks := tk } := fun t tk => fin s.heap t tk fun _ _ e => e
  cases d with
  | none => cases hd; cases ru; exact PySem.P.repr_of_none (by have := fin0 s.toks (s.toks + 1); simp only [PyData.shown] at this; exact this)
  | bool b => cases hd; cases ru; exact PySem.P.repr_of_bool (by have := fin0 s.toks (s.toks + 1); simp only [PyData.shown] at this; exact this)
  | int i => cases hd; obtain ⟨t, rfl⟩ := ru; exact PySem.P.repr_of_int (by simpa [PyData.showable] using h1) (by have := fin0 s.toks (s.toks + 1); simp only [PyData.shown] at this; exact this)
  | str x => cases hd; obtain ⟨t, rfl⟩ := ru; exact PySem.P.repr_of_str (by have := fin0 s.toks (s.toks + 1); simp only [PyData.shown] at this; exact this) (by simpa only [PyData.shown] using h4)
  | list ds =>
    obtain ⟨as, rr, hs⟩ := Rp.reads I _ _ _ hd ru
    cases hd with
    | lst _ _ _ => cases ru; exact repr_of_reads' rr h1 (fun h => hs (h2 h)) hg (by omega) (fun _ _ e => e) fin h4
  | tuple ds =>
    obtain ⟨as, rr, hs⟩ := Rp.reads I _ _ _ hd ru
    cases hd with
    | tup _ _ _ => cases ru; exact repr_of_reads' rr h1 (fun h => hs (h2 h)) hg (by omega) (fun _ _ e => e) fin h4
  | dict kvs =>
    obtain ⟨as, rr, hs⟩ := Rp.reads I _ _ _ hd ru
    cases hd with
    | dic _ _ => cases ru; exact repr_of_reads' rr h1 (fun h => hs (h2 h)) hg (by omega) (fun _ _ e => e) fin h4
theorem v_repr : VN rRepr (fun x : α × Unit => [ea x.1]) eStr (fun x => reprO (ea x.1)) := fun A H x vs Q z ad r e q => by
  cases r with
  | cons r1 r2 => cases r2; exact ⟨A, _, _, z, rfl, r1, e, q _ H (Same.refl H) (.str _)⟩

/-! ### lists and tuples -/
theorem rix {K : PySem.W.Frag} {A : Av} {H : Hp} {xs : List α} {i : Int} {z : α} {vs : List V} (r : RpAll A H vs (xs.map ea)) (h : atI xs i = some z) : ∃ v, atI vs i = some v ∧ Rp A H v (ea z) := by
  unfold atI at h ⊢
  obtain ⟨j, e1, e2⟩ := Option.bind_eq_some_iff.mp h
  rw [show vs.length = xs.length by rw [r.length, List.length_map], e1]
  exact r.get (by rw [List.getElem?_map, e2]; rfl)
theorem v_ixL {K : PySem.W.Frag} : VOp (rIxL K) (eL ea) eInt ea (fun xs i => atI xs i) := fun A H x y vx vy Q z ad r1 r2 e q => by
  cases r2
  cases r1 with
  | lst na ha hr =>
    obtain ⟨v, h1, h2⟩ := rix (K := K) hr e
    exact ⟨_, _, _, v, rfl, rfl, SqL.of ha, h1, q v H (Same.refl H) h2⟩
theorem v_ixT {K : PySem.W.Frag} : VOp (rIxT K) (eT ea) eInt ea (fun xs i => atI xs i) := fun A H x y vx vy Q z ad r1 r2 e q => by
  cases r2
  cases r1 with
  | tup na ha hr =>
    obtain ⟨v, h1, h2⟩ := rix (K := K) hr e
    exact ⟨_, _, _, v, rfl, rfl, SqT.of ha, h1, q v H (Same.refl H) h2⟩
/-- a place in a tuple of a written length -/
theorem v_ixP {K : PySem.W.Frag} {f : α → List PyData} (g : α → γ) (j : Nat) (hj : ∀ x, (f x)[j]? = some (ec (g x))) : VOp (rIxT K) (eP f) eInt ec (fun x i => if i = (j : Int) then some (g x) else none) := fun A H x y vx vy Q z ad r1 r2 e q => by
  cases r2
  obtain ⟨rfl, rfl⟩ := oif e
  cases r1 with
  | tup na ha hr =>
    obtain ⟨v, h1, h2⟩ := hr.get (hj x)
    exact ⟨_, _, _, v, rfl, rfl, SqT.of ha, atI_nat h1, q v H (Same.refl H) h2⟩
def rLen1 (K : PySem.W.Frag) : List V → Hp → VK → Prop := fun xs H Q => ∃ p ys, xs = [.ref p] ∧ (SqL K H p ys ∨ SqT K H p ys) ∧ Q (.int ys.length) H
theorem v_lenL {K : PySem.W.Frag} : VN (rLen1 K) (fun x : List α × Unit => [eL ea x.1]) eInt (fun x => some (x.1.length : Int)) := fun A H x vs Q z ad r e q => by
  cases e
  cases r with
  | cons r1 r2 =>
    cases r2
    cases r1 with
    | lst na ha hr => exact ⟨_, _, rfl, .inl (SqL.of ha), by rw [hr.length, List.length_map]; exact q _ H (Same.refl H) (.int _)⟩
theorem v_lenT {K : PySem.W.Frag} : VN (rLen1 K) (fun x : List α × Unit => [eT ea x.1]) eInt (fun x => some (x.1.length : Int)) := fun A H x vs Q z ad r e q => by
  cases e
  cases r with
  | cons r1 r2 =>
    cases r2
    cases r1 with
    | tup na ha hr => exact ⟨_, _, rfl, .inr (SqT.of ha), by rw [hr.length, List.length_map]; exact q _ H (Same.refl H) (.int _)⟩
/-- list(xs), list(t), tuple(xs), tuple(t) -/
def rList1 (K : PySem.W.Frag) : List V → Hp → VK → Prop := fun xs H Q => ∃ p ys, xs = [.ref p] ∧ (SqL K H p ys ∨ SqT K H p ys) ∧ ∀ l, H l = none → Q (.ref l) (upd H l (.lst ys))
def rTup1 (K : PySem.W.Frag) : List V → Hp → VK → Prop := fun xs H Q => ∃ p ys, xs = [.ref p] ∧ ((SqL K H p ys ∧ ∀ l, H l = none → Q (.ref l) (upd H l (.tup ys))) ∨ (SqT K H p ys ∧ Q (.ref p) H))
theorem v_listL {K : PySem.W.Frag} : VNF (rList1 K) (fun x : List α × Unit => [eL ea x.1]) ea (fun x => some x.1) := fun A H x vs Q z ad r e q => by
  cases e
  cases r with
  | cons r1 r2 =>
    cases r2
    cases r1 with
    | lst na ha hr => exact ⟨_, _, rfl, .inl (SqL.of ha), fun l n => q l _ _ n (same_new n) upd_same (hr.at n (Keep.of_same (same_new n)))⟩
theorem v_listT {K : PySem.W.Frag} : VNF (rList1 K) (fun x : List α × Unit => [eT ea x.1]) ea (fun x => some x.1) := fun A H x vs Q z ad r e q => by
  cases e
  cases r with
  | cons r1 r2 =>
    cases r2
    cases r1 with
    | tup na ha hr => exact ⟨_, _, rfl, .inr (SqT.of ha), fun l n => q l _ _ n (same_new n) upd_same (hr.at n (Keep.of_same (same_new n)))⟩
theorem v_tupL {K : PySem.W.Frag} : VN (rTup1 K) (fun x : List α × Unit => [eL ea x.1]) (eT ea) (fun x => some x.1) := fun A H x vs Q z ad r e q => by
  cases e
  cases r with
  | cons r1 r2 =>
    cases r2
    cases r1 with
    | lst na ha hr => exact ⟨_, _, rfl, .inl ⟨SqL.of ha, fun l n => q _ _ (same_new n) (.tup (ad.fresh n) upd_same (hr.keep (Keep.of_same (same_new n))))⟩⟩
theorem v_tupT {K : PySem.W.Frag} : VN (rTup1 K) (fun x : List α × Unit => [eT ea x.1]) (eT ea) (fun x => some x.1) := fun A H x vs Q z ad r e q => by
  cases e
  cases r with
  | cons r1 r2 =>
    cases r2
    cases r1 with
    | tup na ha hr => exact ⟨_, _, rfl, .inr ⟨SqT.of ha, q _ H (Same.refl H) (.tup na ha hr)⟩⟩
/-- xs + ys, xs * k -/
def catO (xs ys : List α) : Option (List α) := if xs.length + ys.length ≤ sizeLine then some (xs ++ ys) else none
theorem v_catL : VOpF rCat (eL ea) (eL ea) ea catO := fun A H x y vx vy Q z ad r1 r2 e q => by
  obtain ⟨h, rfl⟩ := oif e
  cases r1 with
  | lst na ha hr =>
    cases r2 with
    | lst nb hb hr2 =>
      exact ⟨_, _, _, _, rfl, rfl, ha, hb, by rw [hr.length, hr2.length, List.length_map, List.length_map]; exact h, fun p n => q p _ _ n (same_new n) upd_same (by rw [List.map_append]; exact (hr.append hr2).at n (Keep.of_same (same_new n)))⟩
theorem v_catT {K : PySem.W.Frag} : VOp (rCatA K) (eT ea) (eT ea) (eT ea) catO := fun A H x y vx vy Q z ad r1 r2 e q => by
  obtain ⟨h, rfl⟩ := oif e
  cases r1 with
  | @tup a vs _ na ha hr =>
    cases r2 with
    | @tup b ws _ nb hb hr2 =>
      have ra := hr.append hr2
      rw [← List.map_append] at ra
      refine ⟨_, _, _, _, rfl, rfl, SqT.of ha, SqT.of hb, by rw [hr.length, hr2.length, List.length_map, List.length_map]; exact h, fun h0 => ?_, fun _ h0 => ?_, fun _ _ p n => ?_⟩
      · subst h0; exact q _ H (Same.refl H) (.tup nb hb ra)
      · subst h0; rw [List.append_nil] at ra; exact q _ H (Same.refl H) (.tup na ha ra)
      · exact q _ _ (same_new n) (.tup (ad.fresh n) upd_same (ra.keep (Keep.of_same (same_new n))))
def repO (xs : List α) (k : Int) : Option (List α) := if -(2 ^ 63) ≤ k ∧ k < 2 ^ 63 ∧ xs.length * k.toNat ≤ sizeLine then some (List.replicate k.toNat xs).flatten else none
end
end Pz

namespace Pz
open PySem PySem.Spec PyProof.Rows L2

section
variable {α β γ δ ρ : Type} {ea : α → PyData} {eb : β → PyData} {ec : γ → PyData} {X : Cx} {R : Res} {Γ : List Slot} {e a b c : Expr} {pos : Pos}
theorem RpAll.repeat {A : Av} {H : Hp} {vs : List V} {ds : List PyData} (r : RpAll A H vs ds) : ∀ k : Nat, RpAll A H (List.replicate k vs).flatten (List.replicate k ds).flatten
  | 0 => .nil
  | k + 1 => by
    rw [List.replicate_succ, List.replicate_succ, List.flatten_cons, List.flatten_cons]
    exact r.append (RpAll.repeat r k)
theorem map_rep {f : α → PyData} (xs : List α) : ∀ k : Nat, ((List.replicate k xs).flatten).map f = (List.replicate k (xs.map f)).flatten := fun k => by
  rw [List.map_flatten, List.map_replicate]
theorem v_repL : VOpF rRep (eL ea) eInt ea repO := fun A H x y vx vy Q z ad r1 r2 e q => by
  obtain ⟨⟨h1, h2, h3⟩, rfl⟩ := oif e
  cases r2
  cases r1 with
  | lst na ha hr =>
    exact ⟨_, _, _, rfl, rfl, ha, h1, h2, by rw [hr.length, List.length_map]; exact h3, fun p n => q p _ _ n (same_new n) upd_same (by rw [map_rep]; exact (hr.repeat _).at n (Keep.of_same (same_new n)))⟩
def repTO (xs : List α) (k : Int) : Option (List α) := if xs ≠ [] ∧ 2 ≤ k ∧ k ≤ 1000 ∧ xs.length ≤ 1000 then some (List.replicate k.toNat xs).flatten else none
theorem v_repT {K : PySem.W.Frag} : VOp (rRepT K) (eT ea) eInt (eT ea) repTO := fun A H x y vx vy Q z ad r1 r2 e q => by
  obtain ⟨⟨h0, h1, h2, h3⟩, rfl⟩ := oif e
  cases r2
  cases r1 with
  | @tup p0 vs _ na ha hr =>
    have hl := hr.length
    rw [List.length_map] at hl
    refine ⟨_, _, _, rfl, rfl, SqT.of ha, fun z => ?_, h1, h2, by omega, fun p n => q _ _ (same_new n) (.tup (ad.fresh n) upd_same (by rw [map_rep]; exact (hr.repeat _).keep (Keep.of_same (same_new n))))⟩
    subst z
    exact h0 (List.eq_nil_of_length_eq_zero hl.symm)

/-! ### slices -/
theorem cut_rp {A : Av} {H : Hp} {vs : List V} {ds : List PyData} (r : RpAll A H vs ds) (lo hi : Option Int) : RpAll A H (cutV vs lo hi) ((ds.drop (HT.sIx ds.length 0 lo)).take (HT.sIx ds.length ds.length hi - HT.sIx ds.length 0 lo)) := by
  unfold cutV
  rw [r.length]
  exact (r.drop _).take _
/-- xs[lo:hi] -/
def cutL (xs : List α) (lo hi : Option Int) : List α := (xs.drop (HT.sIx xs.length 0 lo)).take (HT.sIx xs.length xs.length hi - HT.sIx xs.length 0 lo)
theorem cut_map {f : α → β} (xs : List α) (lo hi : Option Int) : (cutL xs lo hi).map f = cutL (xs.map f) lo hi := by
  unfold cutL
  rw [List.map_take, List.map_drop, List.length_map]
/-- a part of a slice -/
def tP (R : Res) (Γ : List Slot) (m : M (Option Int)) : TO := fun σ H Q => ∃ O H0 ow st r st', Rel R O H0 ow Γ σ H ∧ okR R st H ∧ m st = some (r, st') ∧ ∀ H', Keep (Zr R) H H' → okR R st' H' → Q r H'
theorem PO.weak {e : Option Expr} {t t' : TO} (h : PO X e t) (w : ∀ σ H Q, t' σ H Q → t σ H Q) : PO X e t' := ⟨fun pins s σ H Q I q => h.run pins s σ H Q I (w σ H Q q)⟩
theorem p_none : PO X none (tP R Γ (pureM none)) := PO.weak po_none fun σ H Q ⟨O, H0, ow, st, r, st', rel, ok, e, q⟩ => by
  obtain ⟨rfl, rfl⟩ := pure_some e
  exact q H (Keep.refl H) ok
theorem p_some {m : M Int} (h : EJ X R Γ e eInt m) : PO X (some e) (tP R Γ (bindM m fun i => pureM (some i))) := PO.weak (po_some h) fun σ H Q ⟨O, H0, ow, st, r, st', rel, ok, e, q⟩ => by
  obtain ⟨x, s1, e1, e2⟩ := bind_some e
  obtain ⟨rfl, rfl⟩ := pure_some e2
  exact ⟨O, H0, ow, st, x, s1, rel, ok, e1, fun v H' k o r => by cases r; exact ⟨x, rfl, q H' k o⟩⟩
theorem f_slL {lo hi : Option Expr} {m : M (List α)} {ml mh : M (Option Int)} {p2 : Pos} (h : EJ X R Γ e (eL ea) m) (hl : PO X lo (tP R Γ ml)) (hh : PO X hi (tP R Γ mh)) :
    EF X R Γ (.Subscript e (.Slice lo hi none p2) pos) ea (bindM m fun xs => bindM ml fun l => bindM mh fun u => pureM (cutL xs l u)) := by
  refine PE.weak (pe_slice sl_list h hl hh) fun σ H Q ⟨O, H0, ow, st, z, st', rel, ok, e, q⟩ => ?_
  obtain ⟨xs, s1, e1, e2⟩ := bind_some e
  obtain ⟨l, s2, e3, e4⟩ := bind_some e2
  obtain ⟨u, s3, e5, e6⟩ := bind_some e4
  obtain ⟨rfl, rfl⟩ := pure_some e6
  refine ⟨O, H0, ow, st, xs, s1, rel, ok, e1, fun v H1 k1 o1 r1 => ?_⟩
  have rel1 := rel.grow k1 (okZ o1)
  refine ⟨O, H0, ow, s1, l, s2, rel1, o1, e3, fun H2 k2 o2 => ?_⟩
  have rel2 := rel1.grow k2 (okZ o2)
  refine ⟨O, H0, ow, s2, u, s3, rel2, o2, e5, fun H3 k3 o3 => ?_⟩
  have kA : Keep (avo O Γ ow) H1 H3 := (rel1.keepA k2).trans (rel2.keepA k3)
  have r3 := r1.keep kA
  cases r3 with
  | lst na ha hr =>
    refine ⟨_, _, rfl, SqL.of ha, fun p n => q p _ _ (noneK ((k1.trans k2).trans k3) o3 n) (((k1.trans k2).trans k3).trans (Keep.of_same (same_new n))) (o3.same (same_new n)) upd_same ?_⟩
    rw [cut_map]
    exact (cut_rp hr l u).at n (Keep.of_same (same_new n))
theorem e_slT {lo hi : Option Expr} {m : M (List α)} {ml mh : M (Option Int)} {p2 : Pos} (h : EJ X R Γ e (eT ea) m) (hl : PO X lo (tP R Γ ml)) (hh : PO X hi (tP R Γ mh)) :
    EJ X R Γ (.Subscript e (.Slice lo hi none p2) pos) (eT ea) (bindM m fun xs => bindM ml fun l => bindM mh fun u => pureM (cutL xs l u)) := by
  refine PE.weak (pe_slice sl_tupA h hl hh) fun σ H Q ⟨O, H0, ow, st, z, st', rel, ok, e, q⟩ => ?_
  obtain ⟨xs, s1, e1, e2⟩ := bind_some e
  obtain ⟨l, s2, e3, e4⟩ := bind_some e2
  obtain ⟨u, s3, e5, e6⟩ := bind_some e4
  obtain ⟨rfl, rfl⟩ := pure_some e6
  refine ⟨O, H0, ow, st, xs, s1, rel, ok, e1, fun v H1 k1 o1 r1 => ?_⟩
  have rel1 := rel.grow k1 (okZ o1)
  refine ⟨O, H0, ow, s1, l, s2, rel1, o1, e3, fun H2 k2 o2 => ?_⟩
  have rel2 := rel1.grow k2 (okZ o2)
  refine ⟨O, H0, ow, s2, u, s3, rel2, o2, e5, fun H3 k3 o3 => ?_⟩
  have kA : Keep (avo O Γ ow) H1 H3 := (rel1.keepA k2).trans (rel2.keepA k3)
  have r3 := r1.keep kA
  cases r3 with
  | @tup p0 vs _ na ha hr =>
    have hlen := hr.length
    rw [List.length_map] at hlen
    refine ⟨_, _, rfl, SqT.of ha, fun w => q _ _ ((k1.trans k2).trans k3) o3 (.tup na ha ?_), fun _ p n => q _ _ (((k1.trans k2).trans k3).trans (Keep.of_same (same_new n))) (o3.same (same_new n)) (.tup ((rel2.grow k3 (okZ o3)).ad.fresh n) upd_same ?_)⟩
    · have : cutL xs l u = xs := by
        rw [hlen] at w
        unfold cutL
        rw [w.1, w.2, List.drop_zero, Nat.sub_zero, List.take_length]
      rw [this]
      exact hr
    · rw [cut_map]
      exact (cut_rp hr l u).keep (Keep.of_same (same_new n))

/-! ### sorted -/
theorem each_rp {pins : List (Addr × Obj)} {σ : L2.St} {H : Hp} {s : Shared} {A : Av} (I : Inv X pins σ H s) : ∀ {bs : List α} {vs : List V} {us : List Value}, RpAll A H vs (bs.map ea) → Vals vs us → PySem.W.EachIs (fun v b => ∃ x, RelV x v ∧ Rp A H x (ea b)) us bs
  | [], _, _, r, q => by cases r; cases q; exact .nil
  | b :: bs, _, _, r, q => by
    cases r with
    | cons r1 r2 => cases q with | cons q1 q2 => exact .cons ⟨_, q1, r1⟩ (each_rp I r2 q2)
theorem each_reads {pins : List (Addr × Obj)} {σ : L2.St} {H : Hp} {s : Shared} {A : Av} (I : Inv X pins σ H s) : ∀ {bs : List α} {us : List Value}, PySem.W.EachIs (fun v b => ∃ x, RelV x v ∧ Rp A H x (ea b)) us bs → PySem.W.EachIs (fun v b => ∃ as, Reads s.heap v (ea b) as) us bs
  | _, _, .nil => .nil
  | _, _, .cons ⟨x, q1, r1⟩ t => .cons (let ⟨as, h, _⟩ := Rp.reads I _ _ _ r1 q1; ⟨as, h⟩) (each_reads I t)
theorem rp_each {H : Hp} {A : Av} : ∀ {bs : List α} {us : List Value}, PySem.W.EachIs (fun v b => ∃ x, RelV x v ∧ Rp A H x (ea b)) us bs → ∃ vs, Vals vs us ∧ RpAll A H vs (bs.map ea)
  | _, _, .nil => ⟨[], .nil, .nil⟩
  | _, _, .cons ⟨x, q1, r1⟩ t => let ⟨vs, h1, h2⟩ := rp_each t; ⟨x :: vs, .cons q1 h1, .cons r1 h2⟩
/-- which lists are sorted here: their data alike, tuples with an item at least (or none of them a tuple) -/
structure Srt (ok : α → Bool) (e : α → PyData) : Prop where
  alike : ∀ x y, PySem.W.alike (e x) (e y) = true
  kind : (∀ x, ok x = true → ∃ d r, e x = .tuple (d :: r)) ∨ ∀ x, e x ≠ .none ∧ ∀ ds, e x ≠ .tuple ds
  depth : ∀ x, (e x).depth ≤ 60
def srt (e : α → PyData) (xs : List α) : List α := xs.mergeSort (PySem.W.dataLe false e)
def srtO (ok : α → Bool) (e : α → PyData) (xs : List α) : Option (List α) := if xs.all ok = true then some (srt e xs) else none
def rSortD (ok : α → Bool) (ea : α → PyData) : List V → Hp → VK → Prop := fun xs H Q => ∃ A p vs bs, xs = [.ref p] ∧ H p = some (.lst vs) ∧ RpAll A H vs (bs.map ea) ∧ bs.all ok = true ∧
  ∀ q ws, H q = none → RpAll A H ws ((srt ea bs).map ea) → Q (.ref q) (upd H q (.lst ws))
theorem call_sortD {ok : α → Bool} (hs : Srt ok ea) (hu : X.A.units + 64 < cLine) : CallR X (.builtin "sorted") (rSortD ok ea) := fun pins s σ H xs us Q I r h => by
  obtain ⟨A, p, vs, bs, rfl, hp, hr, hok, q⟩ := h
  obtain ⟨u, rfl, ru⟩ := vals1 r
  cases ru
  obtain ⟨its, rv, pl, hz⟩ := I.list (SqL.of hp)
  have each := each_rp I hr rv
  refine PySem.W.sorted_data (enc := ea) (R := fun v b => ∃ x, RelV x v ∧ Rp A H x (ea b)) pl.isList each (each_reads I each) (PySem.W.AllAlike.of hs.alike) ?_ ?_ (fun b _ => by have := hs.depth b; omega) fun out hl eo => ?_
  · rcases hs.kind with h | h
    · refine .inl fun d hd => ?_
      obtain ⟨b, hb, rfl⟩ := List.mem_map.mp hd
      exact h b (List.all_eq_true.mp hok b hb)
    · exact PySem.W.Sortable.others h
  · have := hr.length; rw [List.length_map] at this; omega
  · obtain ⟨ws, h1, h2⟩ := rp_each eo
    obtain ⟨c, hc⟩ := sortedAll_at s.heap its out.toArray
    have fr : H (s.heap.objs.size + 1) = none := I.hok.fresh (Nat.le_succ _)
    refine ⟨.ref _, _, I.laid (o := .lst ws) (t' := s.toks) (h' := sortedAll s.heap its out.toArray) (fun b o e => sortedAll_old e) (Nat.le_succ _) ⟨?_, out, c, h1, hc⟩, rfl, q _ ws fr h2⟩
    have e1 := h1.length
    have e2 := hr.length
    rw [List.length_map] at e2
    omega
theorem v_sort {ok : α → Bool} : VNF (rSortD ok ea) (fun x : List α × Unit => [eL ea x.1]) ea (fun x => srtO ok ea x.1) := fun A H x vs Q z ad r e q => by
  obtain ⟨h, rfl⟩ := oif e
  cases r with
  | cons r1 r2 =>
    cases r2
    cases r1 with
    | lst na ha hr => exact ⟨A, _, _, _, rfl, ha, hr, h, fun p ws n r => q p ws _ n (same_new n) upd_same (r.at n (Keep.of_same (same_new n)))⟩
theorem alikeAll_of (h : ∀ x y, PySem.W.alike (ea x) (ea y) = true) : ∀ xs ys : List α, PySem.W.alikeAll (xs.map ea) (ys.map ea) = true
  | [], _ => by simp [PySem.W.alikeAll]
  | _ :: _, [] => by simp [PySem.W.alikeAll]
  | x :: xs, y :: ys => by simp [PySem.W.alikeAll, h x y, alikeAll_of h xs ys]
theorem depthAll_of {n : Nat} (h : ∀ x, (ea x).depth ≤ n) : ∀ xs : List α, PyData.depthAll (xs.map ea) ≤ n
  | [] => Nat.zero_le _
  | x :: xs => by
    have h1 := h x
    have h2 := depthAll_of h xs
    simp only [List.map_cons, PyData.depthAll]
    omega
/-- rows of ints -/
theorem Srt.rows : Srt (fun r : List Int => !r.isEmpty) (eT eInt) := ⟨fun x y => by
  simp only [eT, PySem.W.alike]
  exact alikeAll_of (fun x y => by simp [eInt, PySem.W.alike]) x y, .inl fun x h => by
    cases x with
    | nil => cases h
    | cons d r => exact ⟨_, _, rfl⟩, fun x => by
      have := depthAll_of (ea := eInt) (n := 0) (fun x => by simp [eInt, PyData.depth]) x
      simp only [eT, PyData.depth]; omega⟩
theorem Srt.ints : Srt (fun _ : Int => true) eInt := ⟨fun x y => by simp [eInt, PySem.W.alike], .inr fun x => ⟨by simp [eInt], by simp [eInt]⟩, fun x => by simp [eInt, PyData.depth]⟩

/-! ### all, any, sum, int, abs, max, min -/
theorem bools_rp {A : Av} {H : Hp} : ∀ {bs : List Bool} {vs : List V}, RpAll A H vs (bs.map eBool) → vs = bs.map V.bl
  | [], _, r => by cases r; rfl
  | b :: bs, _, r => by cases r with | cons r1 r2 => cases r1; rw [bools_rp r2]; rfl
theorem ints_rp {A : Av} {H : Hp} : ∀ {bs : List Int} {vs : List V}, RpAll A H vs (bs.map eInt) → vs = bs.map V.int
  | [], _, r => by cases r; rfl
  | b :: bs, _, r => by cases r with | cons r1 r2 => cases r1; rw [ints_rp r2]; rfl
theorem v_all {K : PySem.W.Frag} : VN (rAll K) (fun x : List Bool × Unit => [eL eBool x.1]) eBool (fun x => some (x.1.all id)) := fun A H x vs Q z ad r e q => by
  cases e
  cases r with
  | cons r1 r2 =>
    cases r2
    cases r1 with
    | lst na ha hr =>
      have := bools_rp hr
      subst this
      exact ⟨_, _, rfl, SqL.of ha, q _ H (Same.refl H) (.bl _)⟩
theorem v_any {K : PySem.W.Frag} : VN (rAny K) (fun x : List Bool × Unit => [eL eBool x.1]) eBool (fun x => some (x.1.any id)) := fun A H x vs Q z ad r e q => by
  cases e
  cases r with
  | cons r1 r2 =>
    cases r2
    cases r1 with
    | lst na ha hr =>
      have := bools_rp hr
      subst this
      exact ⟨_, _, rfl, SqL.of ha, q _ H (Same.refl H) (.bl _)⟩
theorem v_sumL {K : PySem.W.Frag} : VN (rSum K) (fun x : List Int × Unit => [eL eInt x.1]) eInt (fun x => some x.1.sum) := fun A H x vs Q z ad r e q => by
  cases e
  cases r with
  | cons r1 r2 =>
    cases r2
    cases r1 with
    | lst na ha hr =>
      have := ints_rp hr
      subst this
      exact ⟨_, _, rfl, SqL.of ha, q _ H (Same.refl H) (.int _)⟩
def rInt1 : List V → Hp → VK → Prop := fun xs H Q => (∃ i, xs = [.int i] ∧ Q (.int i) H) ∨ ∃ k, xs = [.bl k] ∧ Q (.int (if k then 1 else 0)) H
theorem v_intI : VN rInt1 (fun x : Int × Unit => [eInt x.1]) eInt (fun x => some x.1) := fun A H x vs Q z ad r e q => by
  cases e
  cases r with | cons r1 r2 => cases r2; cases r1; exact .inl ⟨_, rfl, q _ H (Same.refl H) (.int _)⟩
theorem v_intB : VN rInt1 (fun x : Bool × Unit => [eBool x.1]) eInt (fun x => some (if x.1 then 1 else 0)) := fun A H x vs Q z ad r e q => by
  cases e
  cases r with | cons r1 r2 => cases r2; cases r1; exact .inr ⟨_, rfl, q _ H (Same.refl H) (.int _)⟩
def rAbs1 : List V → Hp → VK → Prop := fun xs H Q => ∃ i, xs = [.int i] ∧ Q (.int (if i < 0 then -i else i)) H
theorem v_abs : VN rAbs1 (fun x : Int × Unit => [eInt x.1]) eInt (fun x => some (if x.1 < 0 then -x.1 else x.1)) := fun A H x vs Q z ad r e q => by
  cases e
  cases r with | cons r1 r2 => cases r2; cases r1; exact ⟨_, rfl, q _ H (Same.refl H) (.int _)⟩
def rMax2 : List V → Hp → VK → Prop := fun xs H Q => ∃ i j, xs = [.int i, .int j] ∧ Q (.int (if j > i then j else i)) H
def rMin2 : List V → Hp → VK → Prop := fun xs H Q => ∃ i j, xs = [.int i, .int j] ∧ Q (.int (if j < i then j else i)) H
theorem v_max2 : VN rMax2 (fun x : Int × Int × Unit => [eInt x.1, eInt x.2.1]) eInt (fun x => some (max x.1 x.2.1)) := fun A H x vs Q z ad r e q => by
  cases e
  cases r with
  | cons r1 r2 =>
    cases r2 with
    | cons r2 r3 =>
      cases r3; cases r1; cases r2
      refine ⟨_, _, rfl, ?_⟩
      rw [show (if x.2.1 > x.1 then x.2.1 else x.1) = max x.1 x.2.1 by rw [Int.max_def]; split <;> split <;> omega]
      exact q _ H (Same.refl H) (.int _)
theorem v_min2 : VN rMin2 (fun x : Int × Int × Unit => [eInt x.1, eInt x.2.1]) eInt (fun x => some (min x.1 x.2.1)) := fun A H x vs Q z ad r e q => by
  cases e
  cases r with
  | cons r1 r2 =>
    cases r2 with
    | cons r2 r3 =>
      cases r3; cases r1; cases r2
      refine ⟨_, _, rfl, ?_⟩
      rw [show (if x.2.1 < x.1 then x.2.1 else x.1) = min x.1 x.2.1 by rw [Int.min_def]; split <;> split <;> omega]
      exact q _ H (Same.refl H) (.int _)

/-! ### is None, is True -/
/-- an encoding that is never None -/
def NN (e : α → PyData) : Prop := ∀ x, e x ≠ .none
theorem NN.int : NN eInt := fun _ => by simp [eInt]
theorem NN.tup : NN (eT ea) := fun _ => by simp [eT]
theorem NN.lst : NN (eL ea) := fun _ => by simp [eL]
theorem NN.pr {f : α → List PyData} : NN (eP f) := fun _ => by simp [eP]
theorem rp_non {A : Av} {H : Hp} {v : V} {d : PyData} (r : Rp A H v d) : v = .non ↔ d = .none := by cases r <;> simp
theorem v_isN (h : NN ea) : VOp (fun x y H Q => y = .non ∧ Q (.bl (decide (x = .non))) H) (eO ea) eNon eBool (fun x _ => some x.isNone) := fun A H x y vx vy Q z ad r1 r2 e q => by
  cases e
  cases r2
  refine ⟨rfl, ?_⟩
  have : decide (vx = .non) = x.isNone := by
    have := rp_non r1
    cases x with
    | none => simp [this, eO]
    | some a => simp [this, eO, h a]
  rw [this]
  exact q _ H (Same.refl H) (.bl _)
theorem v_notN (h : NN ea) : VOp (fun x y H Q => y = .non ∧ Q (.bl (!decide (x = .non))) H) (eO ea) eNon eBool (fun x _ => some x.isSome) := fun A H x y vx vy Q z ad r1 r2 e q => by
  cases e
  cases r2
  refine ⟨rfl, ?_⟩
  have : (!decide (vx = .non)) = x.isSome := by
    have := rp_non r1
    cases x with
    | none => simp [this, eO]
    | some a => simp [this, eO, h a]
  rw [this]
  exact q _ H (Same.refl H) (.bl _)
end
end Pz

namespace Pz
open PySem PySem.Spec PyProof.Rows L2

section
variable {α β γ δ κ ρ ι : Type} {ea : α → PyData} {eb : β → PyData} {ec : γ → PyData} {er : ρ → PyData} {ei : ι → PyData} {X : Cx} {R : Res} {Γ Γ' : List Slot} {e a b c : Expr} {st : Stmt} {rest A B body : List Stmt} {pos : Pos} {out : κ → OutD}
/-! ### short names -/
theorem e_add {ma mb : M Int} (ha : EJ X R Γ a eInt ma) (hb : EJ X R Γ b eInt mb) : EJ X R Γ (.BinOp a .Add b pos) eInt (bindM ma fun x => bindM mb fun y => pureM (x + y)) := e_bin op_add v_int2 ha hb
theorem e_sub {ma mb : M Int} (ha : EJ X R Γ a eInt ma) (hb : EJ X R Γ b eInt mb) : EJ X R Γ (.BinOp a .Sub b pos) eInt (bindM ma fun x => bindM mb fun y => pureM (x - y)) := e_bin op_sub v_int2 ha hb
theorem e_mul {ma mb : M Int} (ha : EJ X R Γ a eInt ma) (hb : EJ X R Γ b eInt mb) : EJ X R Γ (.BinOp a .Mult b pos) eInt (bindM ma fun x => bindM mb fun y => optM (mulO x y)) := e_bin op_mul v_mul ha hb
theorem e_div {ma mb : M Int} (ha : EJ X R Γ a eInt ma) (hb : EJ X R Γ b eInt mb) : EJ X R Γ (.BinOp a .FloorDiv b pos) eInt (bindM ma fun x => bindM mb fun y => optM (divO x y)) := e_bin op_fdivN v_div ha hb
theorem e_mod {ma mb : M Int} (ha : EJ X R Γ a eInt ma) (hb : EJ X R Γ b eInt mb) : EJ X R Γ (.BinOp a .Mod b pos) eInt (bindM ma fun x => bindM mb fun y => optM (modO x y)) := e_bin op_modN v_mod ha hb
theorem e_pow {ma mb : M Int} (ha : EJ X R Γ a eInt ma) (hb : EJ X R Γ b eInt mb) : EJ X R Γ (.BinOp a .Pow b pos) eInt (bindM ma fun x => bindM mb fun y => optM (powO x y)) := e_bin op_pow v_pow ha hb
theorem e_shl {ma mb : M Int} (ha : EJ X R Γ a eInt ma) (hb : EJ X R Γ b eInt mb) : EJ X R Γ (.BinOp a .LShift b pos) eInt (bindM ma fun x => bindM mb fun y => optM (shlO x y)) := e_bin op_shl v_shl ha hb
theorem e_neg {ma : M Int} (ha : EJ X R Γ a eInt ma) : EJ X R Γ (.UnaryOp .USub a pos) eInt (bindM ma fun x => pureM (-x)) := e_un un_neg v_neg ha
theorem e_lt {ma mb : M Int} (ha : EJ X R Γ a eInt ma) (hb : EJ X R Γ b eInt mb) : EJ X R Γ (.Compare a [.Lt] [b] pos) eBool (bindM ma fun x => bindM mb fun y => pureM (decide (x < y))) := e_cmp op_lt v_cmp2 ha hb
theorem e_le {ma mb : M Int} (ha : EJ X R Γ a eInt ma) (hb : EJ X R Γ b eInt mb) : EJ X R Γ (.Compare a [.LtE] [b] pos) eBool (bindM ma fun x => bindM mb fun y => pureM (decide (x ≤ y))) := e_cmp op_le v_cmp2 ha hb
theorem e_gt {ma mb : M Int} (ha : EJ X R Γ a eInt ma) (hb : EJ X R Γ b eInt mb) : EJ X R Γ (.Compare a [.Gt] [b] pos) eBool (bindM ma fun x => bindM mb fun y => pureM (decide (y < x))) := e_cmp op_gt v_cmp2 ha hb
theorem e_ge {ma mb : M Int} (ha : EJ X R Γ a eInt ma) (hb : EJ X R Γ b eInt mb) : EJ X R Γ (.Compare a [.GtE] [b] pos) eBool (bindM ma fun x => bindM mb fun y => pureM (decide (y ≤ x))) := e_cmp op_ge v_cmp2 ha hb
theorem t_lt {ma mb : M Int} (ha : EJ X R Γ a eInt ma) (hb : EJ X R Γ b eInt mb) : TJ X R Γ (.Compare a [.Lt] [b] pos) (bindM ma fun x => bindM mb fun y => pureM (decide (x < y))) := t_cmp op_lt v_cmp2 ha hb
theorem t_le {ma mb : M Int} (ha : EJ X R Γ a eInt ma) (hb : EJ X R Γ b eInt mb) : TJ X R Γ (.Compare a [.LtE] [b] pos) (bindM ma fun x => bindM mb fun y => pureM (decide (x ≤ y))) := t_cmp op_le v_cmp2 ha hb
theorem t_gt {ma mb : M Int} (ha : EJ X R Γ a eInt ma) (hb : EJ X R Γ b eInt mb) : TJ X R Γ (.Compare a [.Gt] [b] pos) (bindM ma fun x => bindM mb fun y => pureM (decide (y < x))) := t_cmp op_gt v_cmp2 ha hb
theorem t_ge {ma mb : M Int} (ha : EJ X R Γ a eInt ma) (hb : EJ X R Γ b eInt mb) : TJ X R Γ (.Compare a [.GtE] [b] pos) (bindM ma fun x => bindM mb fun y => pureM (decide (y ≤ x))) := t_cmp op_ge v_cmp2 ha hb
theorem e_eqI {ma mb : M Int} (ha : EJ X R Γ a eInt ma) (hb : EJ X R Γ b eInt mb) : EJ X R Γ (.Compare a [.Eq] [b] pos) eBool (bindM ma fun x => bindM mb fun y => pureM (decide (x = y))) := e_cmp op_eq v_eqI ha hb
theorem e_neI {ma mb : M Int} (ha : EJ X R Γ a eInt ma) (hb : EJ X R Γ b eInt mb) : EJ X R Γ (.Compare a [.NotEq] [b] pos) eBool (bindM ma fun x => bindM mb fun y => pureM (!decide (x = y))) := e_cmp op_ne v_neI ha hb
theorem t_eqI {ma mb : M Int} (ha : EJ X R Γ a eInt ma) (hb : EJ X R Γ b eInt mb) : TJ X R Γ (.Compare a [.Eq] [b] pos) (bindM ma fun x => bindM mb fun y => pureM (decide (x = y))) := t_cmp op_eq v_eqI ha hb
theorem t_neI {ma mb : M Int} (ha : EJ X R Γ a eInt ma) (hb : EJ X R Γ b eInt mb) : TJ X R Γ (.Compare a [.NotEq] [b] pos) (bindM ma fun x => bindM mb fun y => pureM (!decide (x = y))) := t_cmp op_ne v_neI ha hb
theorem e_eqT {ma mb : M Str} (ha : EJ X R Γ a eStr ma) (hb : EJ X R Γ b eStr mb) : EJ X R Γ (.Compare a [.Eq] [b] pos) eBool (bindM ma fun x => bindM mb fun y => pureM (decide (x = y))) := e_cmp op_eq v_eqT ha hb
theorem e_neT {ma mb : M Str} (ha : EJ X R Γ a eStr ma) (hb : EJ X R Γ b eStr mb) : EJ X R Γ (.Compare a [.NotEq] [b] pos) eBool (bindM ma fun x => bindM mb fun y => pureM (!decide (x = y))) := e_cmp op_ne v_neT ha hb
theorem t_eqT {ma mb : M Str} (ha : EJ X R Γ a eStr ma) (hb : EJ X R Γ b eStr mb) : TJ X R Γ (.Compare a [.Eq] [b] pos) (bindM ma fun x => bindM mb fun y => pureM (decide (x = y))) := t_cmp op_eq v_eqT ha hb
theorem t_neT {ma mb : M Str} (ha : EJ X R Γ a eStr ma) (hb : EJ X R Γ b eStr mb) : TJ X R Γ (.Compare a [.NotEq] [b] pos) (bindM ma fun x => bindM mb fun y => pureM (!decide (x = y))) := t_cmp op_ne v_neT ha hb
theorem e_eqP {n k : Nat} [DecidableEq α] {ma mb : M α} (hr : Room k X.A) (h : Dc n ea) (ha : EJ X R Γ a ea ma) (hb : EJ X R Γ b ea mb) (hn : n ≤ 60 := by decide) : EJ X R Γ (.Compare a [.Eq] [b] pos) eBool (bindM ma fun x => bindM mb fun y => pureM (decide (x = y))) := e_cmp (op_eqP hr.units) (v_eqP h hn) ha hb
theorem e_neP {n k : Nat} [DecidableEq α] {ma mb : M α} (hr : Room k X.A) (h : Dc n ea) (ha : EJ X R Γ a ea ma) (hb : EJ X R Γ b ea mb) (hn : n ≤ 60 := by decide) : EJ X R Γ (.Compare a [.NotEq] [b] pos) eBool (bindM ma fun x => bindM mb fun y => pureM (!decide (x = y))) := e_cmp (op_neP hr.units) (v_neP h hn) ha hb
theorem t_eqP {n k : Nat} [DecidableEq α] {ma mb : M α} (hr : Room k X.A) (h : Dc n ea) (ha : EJ X R Γ a ea ma) (hb : EJ X R Γ b ea mb) (hn : n ≤ 60 := by decide) : TJ X R Γ (.Compare a [.Eq] [b] pos) (bindM ma fun x => bindM mb fun y => pureM (decide (x = y))) := t_cmp (op_eqP hr.units) (v_eqP h hn) ha hb
theorem t_neP {n k : Nat} [DecidableEq α] {ma mb : M α} (hr : Room k X.A) (h : Dc n ea) (ha : EJ X R Γ a ea ma) (hb : EJ X R Γ b ea mb) (hn : n ≤ 60 := by decide) : TJ X R Γ (.Compare a [.NotEq] [b] pos) (bindM ma fun x => bindM mb fun y => pureM (!decide (x = y))) := t_cmp (op_neP hr.units) (v_neP h hn) ha hb
theorem e_isN {ma : M (Option α)} {j p} (h : NN ea) (ha : EJ X R Γ a (eO ea) ma) : EJ X R Γ (.Compare a [.Is] [.Constant .none j p] pos) eBool (bindM ma fun x => pureM x.isNone) := e_cmp op_isN (v_isN h) ha e_non
theorem e_notN {ma : M (Option α)} {j p} (h : NN ea) (ha : EJ X R Γ a (eO ea) ma) : EJ X R Γ (.Compare a [.IsNot] [.Constant .none j p] pos) eBool (bindM ma fun x => pureM x.isSome) := e_cmp op_notN (v_notN h) ha e_non
theorem t_isN {ma : M (Option α)} {j p} (h : NN ea) (ha : EJ X R Γ a (eO ea) ma) : TJ X R Γ (.Compare a [.Is] [.Constant .none j p] pos) (bindM ma fun x => pureM x.isNone) := t_cmp op_isN (v_isN h) ha e_non
theorem t_notN {ma : M (Option α)} {j p} (h : NN ea) (ha : EJ X R Γ a (eO ea) ma) : TJ X R Γ (.Compare a [.IsNot] [.Constant .none j p] pos) (bindM ma fun x => pureM x.isSome) := t_cmp op_notN (v_notN h) ha e_non
theorem v_isB : VOp rIsB eBool eBool eBool (fun x y => some (decide (x = y))) := fun A H x y vx vy Q z ad r1 r2 e q => by
  cases r1; cases r2; cases e
  exact ⟨_, _, rfl, rfl, q _ H (Same.refl H) (.bl _)⟩
theorem v_notB : VOp rNotB eBool eBool eBool (fun x y => some (!decide (x = y))) := fun A H x y vx vy Q z ad r1 r2 e q => by
  cases r1; cases r2; cases e
  exact ⟨_, _, rfl, rfl, q _ H (Same.refl H) (.bl _)⟩
theorem e_isB {ma mb : M Bool} (ha : EJ X R Γ a eBool ma) (hb : EJ X R Γ b eBool mb) : EJ X R Γ (.Compare a [.Is] [b] pos) eBool (bindM ma fun x => bindM mb fun y => pureM (decide (x = y))) := e_cmp op_isBl v_isB ha hb
theorem e_notB {ma mb : M Bool} (ha : EJ X R Γ a eBool ma) (hb : EJ X R Γ b eBool mb) : EJ X R Γ (.Compare a [.IsNot] [b] pos) eBool (bindM ma fun x => bindM mb fun y => pureM (!decide (x = y))) := e_cmp op_notBl v_notB ha hb
theorem t_isB {ma mb : M Bool} (ha : EJ X R Γ a eBool ma) (hb : EJ X R Γ b eBool mb) : TJ X R Γ (.Compare a [.Is] [b] pos) (bindM ma fun x => bindM mb fun y => pureM (decide (x = y))) := t_cmp op_isBl v_isB ha hb
theorem t_notB {ma mb : M Bool} (ha : EJ X R Γ a eBool ma) (hb : EJ X R Γ b eBool mb) : TJ X R Γ (.Compare a [.IsNot] [b] pos) (bindM ma fun x => bindM mb fun y => pureM (!decide (x = y))) := t_cmp op_notBl v_notB ha hb
theorem e_ixL {ma : M (List α)} {mb : M Int} (ha : EJ X R Γ a (eL ea) ma) (hb : EJ X R Γ b eInt mb) (hs : PlainIx b := by intro _ _; rfl) : EJ X R Γ (.Subscript a b pos) ea (bindM ma fun x => bindM mb fun y => optM (atI x y)) := e_ix ix_list v_ixL ha hb hs
theorem e_ixT {ma : M (List α)} {mb : M Int} (ha : EJ X R Γ a (eT ea) ma) (hb : EJ X R Γ b eInt mb) (hs : PlainIx b := by intro _ _; rfl) : EJ X R Γ (.Subscript a b pos) ea (bindM ma fun x => bindM mb fun y => optM (atI x y)) := e_ix ix_tup v_ixT ha hb hs
/-- t[j], j written, t a tuple of a written length -/
theorem e_ixP {ma : M α} {f : α → List PyData} {k : Int} {j0 : Nat} {p : Pos} (g : α → γ) (j : Nat) (hj : ∀ x, (f x)[j]? = some (ec (g x)) := by intro _; rfl) (hk : k = (j : Int) := by rfl) (ha : EJ X R Γ a (eP f) ma) : EJ X R Γ (.Subscript a (.Constant (.int k) j0 p) pos) ec (bindM ma fun x => pureM (g x)) := by
  have h := e_ix (X := X) (R := R) (Γ := Γ) (pos := pos) ix_tup (v_ixP (K := X.K) (f := f) (ec := ec) g j hj) ha (e_int (i := k) (j := j0) (pos := p)) (by intro _ _; rfl)
  subst hk
  simpa using h
theorem e_len {x : Str} {p : Pos} {ma : M (List α)} (hm : X.mg x = none) (hv : bootBuiltins x = some (.builtin "len")) (ha : EJ X R Γ a (eL ea) ma) (hg : Gl X x := by rfl) (hn : x ≠ "__name__" := by decide) (hdb : (x == ("__debug__" : Str)) = false := by decide)
    (he : starEach [a] X.env = (false, eval a X.env) :: starEach [] X.env := by rfl) : EJ X R Γ (.Call (.Name x p) [a] [] pos) eInt (bindM ma fun xs => pureM (xs.length : Int)) := by
  have h := e_many (es := [a]) (fun y : List α × Unit => [eL ea y.1]) (pe_callB (pos := pos) (p := p) call_len_seq hg hm hv (a_cons ha a_nil he) hn hdb he rfl) v_lenL
  simpa using h
theorem e_lenT {x : Str} {p : Pos} {ma : M (List α)} (hm : X.mg x = none) (hv : bootBuiltins x = some (.builtin "len")) (ha : EJ X R Γ a (eT ea) ma) (hg : Gl X x := by rfl) (hn : x ≠ "__name__" := by decide) (hdb : (x == ("__debug__" : Str)) = false := by decide)
    (he : starEach [a] X.env = (false, eval a X.env) :: starEach [] X.env := by rfl) : EJ X R Γ (.Call (.Name x p) [a] [] pos) eInt (bindM ma fun xs => pureM (xs.length : Int)) := by
  have h := e_many (es := [a]) (fun y : List α × Unit => [eT ea y.1]) (pe_callB (pos := pos) (p := p) call_len_seq hg hm hv (a_cons ha a_nil he) hn hdb he rfl) v_lenT
  simpa using h
/-- a built-in of one argument -/
theorem e_b1 {x : Str} {p : Pos} {id : String} {r : List V → Hp → VK → Prop} {ma : M α} {f : α → Option γ} (hc : CallR X (.builtin id) r) (hvn : VN r (fun y : α × Unit => [ea y.1]) ec (fun y => f y.1)) (hm : X.mg x = none) (hv : bootBuiltins x = some (.builtin id)) (ha : EJ X R Γ a ea ma) (hg : Gl X x := by rfl) (hn : x ≠ "__name__" := by decide) (hdb : (x == ("__debug__" : Str)) = false := by decide)
    (he : starEach [a] X.env = (false, eval a X.env) :: starEach [] X.env := by rfl) : EJ X R Γ (.Call (.Name x p) [a] [] pos) ec (bindM ma fun y => optM (f y)) := by
  have h := e_many (es := [a]) (fun y : α × Unit => [ea y.1]) (pe_callB (pos := pos) (p := p) hc hg hm hv (a_cons ha a_nil he) hn hdb he rfl) hvn
  simpa using h
theorem f_b1 {x : Str} {p : Pos} {id : String} {r : List V → Hp → VK → Prop} {ma : M α} {f : α → Option (List γ)} (hc : CallR X (.builtin id) r) (hvn : VNF r (fun y : α × Unit => [ea y.1]) ec (fun y => f y.1)) (hm : X.mg x = none) (hv : bootBuiltins x = some (.builtin id)) (ha : EJ X R Γ a ea ma) (hg : Gl X x := by rfl) (hn : x ≠ "__name__" := by decide) (hdb : (x == ("__debug__" : Str)) = false := by decide)
    (he : starEach [a] X.env = (false, eval a X.env) :: starEach [] X.env := by rfl) : EF X R Γ (.Call (.Name x p) [a] [] pos) ec (bindM ma fun y => optM (f y)) := by
  have h := f_many (es := [a]) (fun y : α × Unit => [ea y.1]) (pe_callB (pos := pos) (p := p) hc hg hm hv (a_cons ha a_nil he) hn hdb he rfl) hvn
  simpa using h
theorem e_t1 {x : Str} {p : Pos} {T : String} {r : List V → Hp → VK → Prop} {ma : M α} {f : α → Option γ} (hc : CallR X (.type T) r) (hvn : VN r (fun y : α × Unit => [ea y.1]) ec (fun y => f y.1)) (hm : X.mg x = none) (hv : bootBuiltins x = some (.type T)) (ha : EJ X R Γ a ea ma) (hg : Gl X x := by rfl) (hn : x ≠ "__name__" := by decide) (hdb : (x == ("__debug__" : Str)) = false := by decide)
    (he : starEach [a] X.env = (false, eval a X.env) :: starEach [] X.env := by rfl) : EJ X R Γ (.Call (.Name x p) [a] [] pos) ec (bindM ma fun y => optM (f y)) := by
  have h := e_many (es := [a]) (fun y : α × Unit => [ea y.1]) (pe_callTy (pos := pos) (p := p) hc hg hm hv (a_cons ha a_nil he) hn hdb he rfl) hvn
  simpa using h
theorem f_t1 {x : Str} {p : Pos} {T : String} {r : List V → Hp → VK → Prop} {ma : M α} {f : α → Option (List γ)} (hc : CallR X (.type T) r) (hvn : VNF r (fun y : α × Unit => [ea y.1]) ec (fun y => f y.1)) (hm : X.mg x = none) (hv : bootBuiltins x = some (.type T)) (ha : EJ X R Γ a ea ma) (hg : Gl X x := by rfl) (hn : x ≠ "__name__" := by decide) (hdb : (x == ("__debug__" : Str)) = false := by decide)
    (he : starEach [a] X.env = (false, eval a X.env) :: starEach [] X.env := by rfl) : EF X R Γ (.Call (.Name x p) [a] [] pos) ec (bindM ma fun y => optM (f y)) := by
  have h := f_many (es := [a]) (fun y : α × Unit => [ea y.1]) (pe_callTy (pos := pos) (p := p) hc hg hm hv (a_cons ha a_nil he) hn hdb he rfl) hvn
  simpa using h
theorem e_b2 {x : Str} {p : Pos} {id : String} {r : List V → Hp → VK → Prop} {ma : M α} {mb : M β} {f : α → β → Option γ} (hc : CallR X (.builtin id) r) (hvn : VN r (fun y : α × β × Unit => [ea y.1, eb y.2.1]) ec (fun y => f y.1 y.2.1)) (hm : X.mg x = none) (hv : bootBuiltins x = some (.builtin id)) (ha : EJ X R Γ a ea ma) (hb : EJ X R Γ b eb mb) (hg : Gl X x := by rfl) (hn : x ≠ "__name__" := by decide) (hdb : (x == ("__debug__" : Str)) = false := by decide)
    (he : starEach [a, b] X.env = (false, eval a X.env) :: starEach [b] X.env := by rfl) (he2 : starEach [b] X.env = (false, eval b X.env) :: starEach [] X.env := by rfl) : EJ X R Γ (.Call (.Name x p) [a, b] [] pos) ec (bindM ma fun y => bindM mb fun z => optM (f y z)) := by
  have h := e_many (es := [a, b]) (fun y : α × β × Unit => [ea y.1, eb y.2.1]) (pe_callB (pos := pos) (p := p) hc hg hm hv (a_cons ha (a_cons hb a_nil he2) he) hn hdb he (by rw [he2]; rfl)) hvn
  simpa using h
theorem e_repr {x : Str} {p : Pos} {k : Nat} {ma : M α} (hr : Room k X.A) (hG : X.A.guards = some []) (hm : X.mg x = none) (hv : bootBuiltins x = some (.builtin "repr")) (ha : EJ X R Γ a ea ma) (hg : Gl X x := by rfl) (hn : x ≠ "__name__" := by decide) (hdb : (x == ("__debug__" : Str)) = false := by decide)
    (he : starEach [a] X.env = (false, eval a X.env) :: starEach [] X.env := by rfl) : EJ X R Γ (.Call (.Name x p) [a] [] pos) eStr (bindM ma fun y => optM (reprO (ea y))) := e_b1 (call_reprD hr.units hG) v_repr hm hv ha hg hn hdb he
theorem f_catL {ma mb : M (List α)} (ha : EJ X R Γ a (eL ea) ma) (hb : EJ X R Γ b (eL ea) mb) : EF X R Γ (.BinOp a .Add b pos) ea (bindM ma fun x => bindM mb fun y => optM (catO x y)) := f_bin op_cat v_catL ha hb
theorem e_catT {ma mb : M (List α)} (ha : EJ X R Γ a (eT ea) ma) (hb : EJ X R Γ b (eT ea) mb) : EJ X R Γ (.BinOp a .Add b pos) (eT ea) (bindM ma fun x => bindM mb fun y => optM (catO x y)) := e_bin op_catA v_catT ha hb
theorem f_repL {ma : M (List α)} {mb : M Int} (ha : EJ X R Γ a (eL ea) ma) (hb : EJ X R Γ b eInt mb) : EF X R Γ (.BinOp a .Mult b pos) ea (bindM ma fun x => bindM mb fun y => optM (repO x y)) := f_bin op_rep v_repL ha hb
theorem e_repT {ma : M (List α)} {mb : M Int} (ha : EJ X R Γ a (eT ea) ma) (hb : EJ X R Γ b eInt mb) : EJ X R Γ (.BinOp a .Mult b pos) (eT ea) (bindM ma fun x => bindM mb fun y => optM (repTO x y)) := e_bin op_repT v_repT ha hb

/-! ### displays of one kind of items -/
abbrev LJ (X : Cx) (R : Res) (Γ : List Slot) (es : List Expr) (enc : α → PyData) (m : M (List α)) : Prop := AJ X R Γ es (fun xs => (xs.map enc).map .fz) m
theorem l_nil : LJ X R Γ [] ea (pureM []) := by
  refine PA.weak pa_nil fun σ H Q ⟨O, H0, ow, st, z, st', rel, ok, e, q⟩ => ?_
  obtain ⟨rfl, rfl⟩ := pure_some e
  exact q [] H (Keep.refl H) ok .nil
theorem l_cons {es : List Expr} {ma : M α} {mb : M (List α)} (ha : EJ X R Γ a ea ma) (hb : LJ X R Γ es ea mb) (hs : starEach (a :: es) X.env = (false, eval a X.env) :: starEach es X.env := by rfl) :
    LJ X R Γ (a :: es) ea (bindM ma fun x => bindM mb fun y => pureM (x :: y)) := by
  refine PA.weak (pa_cons ha hb hs) fun σ H Q ⟨O, H0, ow, st, z, st', rel, ok, e, q⟩ => ?_
  obtain ⟨x, s1, e1, e'⟩ := bind_some e
  obtain ⟨y, s2, e2, e3⟩ := bind_some e'
  obtain ⟨rfl, rfl⟩ := pure_some e3
  refine ⟨O, H0, ow, st, x, s1, rel, ok, e1, fun vx H1 k1 o1 r1 => ?_⟩
  refine ⟨O, H0, ow, s1, y, s2, rel.grow k1 (okZ o1), o1, e2, fun vs H2 k2 o2 r2 => ?_⟩
  exact q _ H2 (k1.trans k2) o2 (.cons (r1.keep ((rel.grow k1 (okZ o1)).keepA k2)) r2)
/-- how many: said by the reading -/
def smallM (m : M (List α)) : M (List α) := bindM m fun xs => if xs.length ≤ sizeLine then pureM xs else failM
theorem smallM_some {m : M (List α)} {s t : Src} {z : List α} (h : smallM m s = some (z, t)) : m s = some (z, t) ∧ z.length ≤ sizeLine := by
  obtain ⟨x, u, e1, e2⟩ := bind_some h
  obtain ⟨hl, rfl, rfl⟩ := if_some e2
  exact ⟨e1, hl⟩
theorem f_list {es : List Expr} {m : M (List α)} (h : LJ X R Γ es ea m) : EF X R Γ (.List es pos) ea (smallM m) := by
  refine PE.weak (pe_lst h) fun σ H Q ⟨O, H0, ow, st, z, st', rel, ok, e, q⟩ => ?_
  obtain ⟨e, hz⟩ := smallM_some e
  refine ⟨O, H0, ow, st, z, st', rel, ok, e, fun vs H1 k1 o1 r1 => ?_⟩
  have r2 : RpAll _ _ _ _ := RpSs.dat (R := R) r1
  refine ⟨by rw [r2.length, List.length_map]; exact hz, fun p n => q p vs _ (noneK k1 o1 n) (keepS k1 (same_new n)) (o1.same (same_new n)) upd_same (r2.at n (Keep.of_same (same_new n)))⟩
theorem e_tupl {es : List Expr} {k : Nat} {m : M (List α)} (h : LJ X R Γ es ea m) : EJ X R Γ (.Tuple es k pos) (eT ea) (smallM m) := by
  refine PE.weak (pe_tup h) fun σ H Q ⟨O, H0, ow, st, z, st', rel, ok, e, q⟩ => ?_
  obtain ⟨e, hz⟩ := smallM_some e
  refine ⟨O, H0, ow, st, z, st', rel, ok, e, fun vs H1 k1 o1 r1 => ?_⟩
  have r2 : RpAll _ _ _ _ := RpSs.dat (R := R) r1
  refine ⟨by rw [r2.length, List.length_map]; exact hz, fun p n => q _ _ (keepS k1 (same_new n)) (o1.same (same_new n)) (.tup ((rel.grow k1 (okZ o1)).ad.fresh n) upd_same (r2.keep (Keep.of_same (same_new n))))⟩
/-- *t ahead of more -/
theorem l_starT {es : List Expr} {p : Pos} {ma mb : M (List α)} (ha : EJ X R Γ a (eT ea) ma) (hb : LJ X R Γ es ea mb) (hs : starEach (.Starred a p :: es) X.env = (true, eval a X.env) :: starEach es X.env := by rfl) :
    LJ X R Γ (.Starred a p :: es) ea (bindM ma fun x => bindM mb fun y => pureM (x ++ y)) := by
  refine PA.weak (StX.pa_star ha hb hs) fun σ H Q ⟨O, H0, ow, st, z, st', rel, ok, e, q⟩ => ?_
  obtain ⟨x, s1, e1, e'⟩ := bind_some e
  obtain ⟨y, s2, e2, e3⟩ := bind_some e'
  obtain ⟨rfl, rfl⟩ := pure_some e3
  refine ⟨O, H0, ow, st, x, s1, rel, ok, e1, fun vx H1 k1 o1 r1 => ?_⟩
  cases r1 with
  | tup na ha hr =>
    refine ⟨_, _, rfl, .inl (SqT.of ha), O, H0, ow, s1, y, s2, rel.grow k1 (okZ o1), o1, e2, fun vs H2 k2 o2 r2 => q _ H2 (k1.trans k2) o2 ?_⟩
    have hr2 := hr.keep ((rel.grow k1 (okZ o1)).keepA k2)
    have all := hr2.append (RpSs.dat (R := R) r2)
    rw [← List.map_append] at all
    have back : ∀ {vs : List V} {ds : List PyData}, RpAll (avo O Γ ow) H2 vs ds → RpSs R (avo O Γ ow) H2 vs (ds.map .fz) := by
      intro vs ds
      induction ds generalizing vs with
      | nil => intro h; cases h; exact .nil
      | cons d ds ih => intro h; cases h with | cons h1 h2 => exact .cons h1 (ih h2)
    exact back all

/-! ### statements, short -/
def caseO {ρ β κ : Type} (o : Out ρ β) (f : β → M κ) (g : ρ → M κ) : M κ := match o with
  | .nx b => f b
  | .rt r => g r
theorem s_ret0 {m : M ρ} (he : EJ X R Γ e er m) : SJ X R Γ (.Return (some e) pos :: rest) (fun r => .rt (er r)) m := by
  have := s_ret (rest := rest) (pos := pos) (out := fun r => .rt (er r)) (f := id) he
  simpa using this
theorem s_retO {Γb : β → List Slot} {m : M ρ} (he : EJ X R Γ e er m) : SJ X R Γ (.Return (some e) pos :: rest) (outO er Γb) (bindM m fun r => pureM (Out.rt r)) := s_ret Out.rt he
theorem s_step1 {Γ1 : β → List Slot} {m1 : M (Out ρ β)} {k : β → M ρ} (h1 : QJ X R Γ st (outO er Γ1) m1) (h2 : ∀ b, SJ X R (Γ1 b) rest (fun r => .rt (er r)) (k b)) :
    SJ X R Γ (st :: rest) (fun r => .rt (er r)) (bindM m1 fun o => caseO o k pureM) :=
  s_eq (s_stepO (f := id) h1 h2) (congrArg (bindM m1) (funext fun o => by cases o <;> rfl))
theorem s_step2 {Γ1 : β → List Slot} {Γb : δ → List Slot} {m1 : M (Out ρ β)} {k : β → M (Out ρ δ)} (h1 : QJ X R Γ st (outO er Γ1) m1) (h2 : ∀ b, SJ X R (Γ1 b) rest (outO er Γb) (k b)) :
    SJ X R Γ (st :: rest) (outO er Γb) (bindM m1 fun o => caseO o k fun r => pureM (Out.rt r)) :=
  s_eq (s_stepO (f := Out.rt) h1 h2) (congrArg (bindM m1) (funext fun o => by cases o <;> rfl))
theorem s_ifret2 {Γb : β → List Slot} {mc : M Bool} {mA : M ρ} {mR : M (Out ρ β)} (hc : TJ X R Γ c mc) (hA : SJ X R Γ A (fun r => .rt (er r)) mA) (hR : SJ X R Γ rest (outO er Γb) mR) :
    SJ X R Γ (.If c A [] pos :: rest) (outO er Γb) (bindM mc fun k => if k then bindM mA (fun r => pureM (Out.rt r)) else mR) := s_ifret Out.rt hc hA (fun r => ⟨_, rfl⟩) (fun _ => rfl) hR
theorem s_nilN {Γb : β → List Slot} (b : β) (h : Low Γ (Γb b)) : SJ X R Γ [] (fun b => .nx (Γb b)) (pureM b) := s_nil rfl h
theorem s_nilO {Γb : β → List Slot} (b : β) (h : Low Γ (Γb b)) : SJ X R Γ [] (outO er Γb) (pureM (Out.nx b)) := s_nil rfl h

/-! ### targets, short -/
def st1 (i : Nat) (enc : ι → PyData) (Γ : List Slot) (y : ι) : List Slot := Γ.set i (.fz (enc y))
def st2 (i : Nat) (ea : α → PyData) (j : Nat) (eb : β → PyData) (Γ : List Slot) (y : α × β × Unit) : List Slot := (Γ.set i (.fz (ea y.1))).set j (.fz (eb y.2.1))
def st3 (i : Nat) (ea : α → PyData) (j : Nat) (eb : β → PyData) (k : Nat) (ec : γ → PyData) (Γ : List Slot) (y : α × β × γ × Unit) : List Slot := ((Γ.set i (.fz (ea y.1))).set j (.fz (eb y.2.1))).set k (.fz (ec y.2.2.1))
theorem g1 (i : Nat) {x : Str} (enc : ι → PyData) (hN : X.N.Nodup) (hi : X.N[i]? = some x := by rfl) (hx : Loc X.env.scope x := by first | exact Or.inl rfl | exact Or.inr rfl)
    (hf : X.fn x = true ∨ X.env.scope.names.lookup x = some .local := by first | exact .inl rfl | exact .inr rfl) : GJ X (.Name x pos) (st1 i enc) [i] enc := g_name i enc hN hi hx hf
theorem noow1 {i : Nat} {enc : ι → PyData} : ∀ Γ x (j : Nat) d, (st1 i enc Γ x)[j]? = some (.ow d) → Γ[j]? = some (.ow d) := fun _ _ _ _ e => set_noow _ _ e
theorem sm1 {i : Nat} {enc : ι → PyData} : ∀ Γ x (j : Nat), j ∉ [i] → (st1 i enc Γ x)[j]? = Γ[j]? := fun _ _ _ h => List.getElem?_set_ne (fun z => h (by simp [z]))
theorem noow2 {i j : Nat} : ∀ Γ x (l : Nat) d, (st2 i ea j eb Γ x)[l]? = some (.ow d) → Γ[l]? = some (.ow d) := fun _ _ _ _ e => set_noow _ _ (set_noow _ _ e)
theorem sm2 {i j : Nat} : ∀ Γ x (l : Nat), l ∉ [i, j] → (st2 i ea j eb Γ x)[l]? = Γ[l]? := fun _ _ _ h => (List.getElem?_set_ne (fun z => h (by simp [z]))).trans (List.getElem?_set_ne (fun z => h (by simp [z])))
theorem noow3 {i j k : Nat} : ∀ Γ x (l : Nat) d, (st3 i ea j eb k ec Γ x)[l]? = some (.ow d) → Γ[l]? = some (.ow d) := fun _ _ _ _ e => set_noow _ _ (set_noow _ _ (set_noow _ _ e))
theorem sm3 {i j k : Nat} : ∀ Γ x (l : Nat), l ∉ [i, j, k] → (st3 i ea j eb k ec Γ x)[l]? = Γ[l]? := fun _ _ _ h => (List.getElem?_set_ne (fun z => h (by simp [z]))).trans ((List.getElem?_set_ne (fun z => h (by simp [z]))).trans (List.getElem?_set_ne (fun z => h (by simp [z]))))
theorem g2 (i j : Nat) {x y : Str} {p q : Pos} {k : Nat} (ea : α → PyData) (eb : β → PyData) (hc : X.calm = true) (hN : X.N.Nodup) (hi : X.N[i]? = some x := by rfl) (hj : X.N[j]? = some y := by rfl) (hx : Loc X.env.scope x := by first | exact Or.inl rfl | exact Or.inr rfl) (hy : Loc X.env.scope y := by first | exact Or.inl rfl | exact Or.inr rfl)
    (hf : X.fn x = true ∨ X.env.scope.names.lookup x = some .local := by first | exact .inl rfl | exact .inr rfl) (hf2 : X.fn y = true ∨ X.env.scope.names.lookup y = some .local := by first | exact .inl rfl | exact .inr rfl) :
    GJ X (.Tuple [.Name x p, .Name y q] k pos) (st2 i ea j eb) [i, j] (eP (eC ea (eC eb eU))) :=
  g_tup (n := 2) hc (gs_cons (g1 i ea hN hi hx hf) (gs_cons (g1 j eb hN hj hy hf2) gs_nil noow1) noow1)
theorem g3 (i j l : Nat) {x y z : Str} {p q r : Pos} {k : Nat} (ea : α → PyData) (eb : β → PyData) (ec : γ → PyData) (hc : X.calm = true) (hN : X.N.Nodup) (hi : X.N[i]? = some x := by rfl) (hj : X.N[j]? = some y := by rfl) (hl : X.N[l]? = some z := by rfl) (hx : Loc X.env.scope x := by first | exact Or.inl rfl | exact Or.inr rfl) (hy : Loc X.env.scope y := by first | exact Or.inl rfl | exact Or.inr rfl) (hz : Loc X.env.scope z := by first | exact Or.inl rfl | exact Or.inr rfl)
    (hf : X.fn x = true ∨ X.env.scope.names.lookup x = some .local := by first | exact .inl rfl | exact .inr rfl) (hf2 : X.fn y = true ∨ X.env.scope.names.lookup y = some .local := by first | exact .inl rfl | exact .inr rfl) (hf3 : X.fn z = true ∨ X.env.scope.names.lookup z = some .local := by first | exact .inl rfl | exact .inr rfl) :
    GJ X (.Tuple [.Name x p, .Name y q, .Name z r] k pos) (st3 i ea j eb l ec) [i, j, l] (eP (eC ea (eC eb (eC ec eU)))) :=
  g_tup (n := 3) hc (gs_cons (g1 i ea hN hi hx hf) (gs_cons (g1 j eb hN hj hy hf2) (gs_cons (g1 l ec hN hl hz hf3) gs_nil noow1) noow1) noow1)
/-- no own list at the places vs -/
theorem noOw {Γ : List Slot} {vs : List Nat} (h : (vs.all fun i => match Γ[i]? with | some (.ow _) => false | _ => true) = true) : ∀ i ∈ vs, ∀ d, Γ[i]? ≠ some (.ow d) := fun i hi d e => by
  have := List.all_eq_true.mp h i hi
  rw [e] at this
  cases this
end
end Pz

namespace Pz
open PySem PySem.Spec PyProof.Rows L2

section
variable {α β γ δ ζ κ ρ ι : Type} {ea : α → PyData} {eb : β → PyData} {ec : γ → PyData} {ed : δ → PyData} {ez : ζ → PyData} {er : ρ → PyData} {X : Cx} {R : Res} {Γ Γ' : List Slot} {a b c d z : Expr} {pos : Pos}
/-! ### calls of defs, by the number of their arguments -/
theorem e_c1 {k : Nat} {f : Addr} {fd : FuncData} {ps : List Str} {x : Str} {p : Pos} {g : α → M ρ} {mα : M α} (F : FnG X.prog X.w X.K X.mg X.base k f fd ps (SpM (fun p : α × Unit => [.fz (ea p.1)]) er (fun p : α × Unit => g p.1))) (hG : X.A.guards = some []) (hr : Room k X.A) (hm : X.mg x = some (.ref f)) (hk : PySem.W.keepIn X.K (.ref f) = true)
    (hB : Binds X.K fd ps []) (ha : EJ X R Γ a ea mα) (hg : Gl X x := by rfl) (hdb : (x == ("__debug__" : Str)) = false := by decide) (has : starEach [a] X.env = (false, eval a X.env) :: starEach [] X.env := by rfl) (hpl : (backTo pos (starEach [] X.env)).any (·.1) = false := by rfl) :
    EJ X R Γ (.Call (.Name x p) [a] [] pos) er (bindM mα fun v0 => g v0) := by
  have h := e_callG (pos := pos) (p := p) F hG hr hm hk hB (a_cons ha a_nil has) hg hdb has hpl
  simpa using h
theorem e_cs1 {k : Nat} {f : Addr} {fd : FuncData} {ps : List Str} {x : Str} {p : Pos} {y : Str} {q : Pos} (i : Nat) {g : α → M ρ} {mα : M α} (F : FnG X.prog X.w X.K X.mg X.base k f fd ps (SpM (fun p : α × Unit => [.src, .fz (ea p.1)]) er (fun p : α × Unit => g p.1))) (hG : X.A.guards = some []) (hr : Room k X.A) (hm : X.mg x = some (.ref f)) (hk : PySem.W.keepIn X.K (.ref f) = true)
    (hB : Binds X.K fd ps []) (ha : EJ X R Γ a ea mα) (hg : Gl X x := by rfl) (hdb : (x == ("__debug__" : Str)) = false := by decide) (has : starEach [a] X.env = (false, eval a X.env) :: starEach [] X.env := by rfl) (hΓ : Γ[i]? = some .src := by rfl) (hN : X.N[i]? = some y := by rfl) (hv : Vis X.env.scope y := by first | exact Or.inl rfl | exact Or.inr (Or.inl rfl) | exact Or.inr (Or.inr rfl)) (hyd : (y == ("__debug__" : Str)) = false := by decide) (hyc : (y == ("__classdict__" : Str)) = false := by decide) (hsrc : starEach (.Name y q :: [a]) X.env = (false, eval (.Name y q) X.env) :: starEach [a] X.env := by rfl) (hpl : (backTo pos (starEach [a] X.env)).any (·.1) = false := by rfl) :
    EJ X R Γ (.Call (.Name x p) [.Name y q, a] [] pos) er (bindM mα fun v0 => g v0) := by
  have h := e_callG (pos := pos) (p := p) F hG hr hm hk hB (a_src i (a_cons ha a_nil has) hΓ hN hv hyd hyc hsrc) hg hdb hsrc hpl
  simpa using h
theorem e_c2 {k : Nat} {f : Addr} {fd : FuncData} {ps : List Str} {x : Str} {p : Pos} {g : α → β → M ρ} {mα : M α} {mβ : M β} (F : FnG X.prog X.w X.K X.mg X.base k f fd ps (SpM (fun p : α × β × Unit => [.fz (ea p.1), .fz (eb p.2.1)]) er (fun p : α × β × Unit => g p.1 p.2.1))) (hG : X.A.guards = some []) (hr : Room k X.A) (hm : X.mg x = some (.ref f)) (hk : PySem.W.keepIn X.K (.ref f) = true)
    (hB : Binds X.K fd ps []) (ha : EJ X R Γ a ea mα) (hb : EJ X R Γ b eb mβ) (hg : Gl X x := by rfl) (hdb : (x == ("__debug__" : Str)) = false := by decide) (has : starEach [a, b] X.env = (false, eval a X.env) :: starEach [b] X.env := by rfl) (hbs : starEach [b] X.env = (false, eval b X.env) :: starEach [] X.env := by rfl) (hpl : (backTo pos (starEach [b] X.env)).any (·.1) = false := by rfl) :
    EJ X R Γ (.Call (.Name x p) [a, b] [] pos) er (bindM mα fun v0 => bindM mβ fun v1 => g v0 v1) := by
  have h := e_callG (pos := pos) (p := p) F hG hr hm hk hB (a_cons ha (a_cons hb a_nil hbs) has) hg hdb has hpl
  simpa using h
theorem e_cs2 {k : Nat} {f : Addr} {fd : FuncData} {ps : List Str} {x : Str} {p : Pos} {y : Str} {q : Pos} (i : Nat) {g : α → β → M ρ} {mα : M α} {mβ : M β} (F : FnG X.prog X.w X.K X.mg X.base k f fd ps (SpM (fun p : α × β × Unit => [.src, .fz (ea p.1), .fz (eb p.2.1)]) er (fun p : α × β × Unit => g p.1 p.2.1))) (hG : X.A.guards = some []) (hr : Room k X.A) (hm : X.mg x = some (.ref f)) (hk : PySem.W.keepIn X.K (.ref f) = true)
    (hB : Binds X.K fd ps []) (ha : EJ X R Γ a ea mα) (hb : EJ X R Γ b eb mβ) (hg : Gl X x := by rfl) (hdb : (x == ("__debug__" : Str)) = false := by decide) (has : starEach [a, b] X.env = (false, eval a X.env) :: starEach [b] X.env := by rfl) (hbs : starEach [b] X.env = (false, eval b X.env) :: starEach [] X.env := by rfl) (hΓ : Γ[i]? = some .src := by rfl) (hN : X.N[i]? = some y := by rfl) (hv : Vis X.env.scope y := by first | exact Or.inl rfl | exact Or.inr (Or.inl rfl) | exact Or.inr (Or.inr rfl)) (hyd : (y == ("__debug__" : Str)) = false := by decide) (hyc : (y == ("__classdict__" : Str)) = false := by decide) (hsrc : starEach (.Name y q :: [a, b]) X.env = (false, eval (.Name y q) X.env) :: starEach [a, b] X.env := by rfl) (hpl : (backTo pos (starEach [a, b] X.env)).any (·.1) = false := by rfl) :
    EJ X R Γ (.Call (.Name x p) [.Name y q, a, b] [] pos) er (bindM mα fun v0 => bindM mβ fun v1 => g v0 v1) := by
  have h := e_callG (pos := pos) (p := p) F hG hr hm hk hB (a_src i (a_cons ha (a_cons hb a_nil hbs) has) hΓ hN hv hyd hyc hsrc) hg hdb hsrc hpl
  simpa using h
theorem e_c3 {k : Nat} {f : Addr} {fd : FuncData} {ps : List Str} {x : Str} {p : Pos} {g : α → β → γ → M ρ} {mα : M α} {mβ : M β} {mγ : M γ} (F : FnG X.prog X.w X.K X.mg X.base k f fd ps (SpM (fun p : α × β × γ × Unit => [.fz (ea p.1), .fz (eb p.2.1), .fz (ec p.2.2.1)]) er (fun p : α × β × γ × Unit => g p.1 p.2.1 p.2.2.1))) (hG : X.A.guards = some []) (hr : Room k X.A) (hm : X.mg x = some (.ref f)) (hk : PySem.W.keepIn X.K (.ref f) = true)
    (hB : Binds X.K fd ps []) (ha : EJ X R Γ a ea mα) (hb : EJ X R Γ b eb mβ) (hc : EJ X R Γ c ec mγ) (hg : Gl X x := by rfl) (hdb : (x == ("__debug__" : Str)) = false := by decide) (has : starEach [a, b, c] X.env = (false, eval a X.env) :: starEach [b, c] X.env := by rfl) (hbs : starEach [b, c] X.env = (false, eval b X.env) :: starEach [c] X.env := by rfl) (hcs : starEach [c] X.env = (false, eval c X.env) :: starEach [] X.env := by rfl) (hpl : (backTo pos (starEach [b, c] X.env)).any (·.1) = false := by rfl) :
    EJ X R Γ (.Call (.Name x p) [a, b, c] [] pos) er (bindM mα fun v0 => bindM mβ fun v1 => bindM mγ fun v2 => g v0 v1 v2) := by
  have h := e_callG (pos := pos) (p := p) F hG hr hm hk hB (a_cons ha (a_cons hb (a_cons hc a_nil hcs) hbs) has) hg hdb has hpl
  simpa using h
theorem e_cs3 {k : Nat} {f : Addr} {fd : FuncData} {ps : List Str} {x : Str} {p : Pos} {y : Str} {q : Pos} (i : Nat) {g : α → β → γ → M ρ} {mα : M α} {mβ : M β} {mγ : M γ} (F : FnG X.prog X.w X.K X.mg X.base k f fd ps (SpM (fun p : α × β × γ × Unit => [.src, .fz (ea p.1), .fz (eb p.2.1), .fz (ec p.2.2.1)]) er (fun p : α × β × γ × Unit => g p.1 p.2.1 p.2.2.1))) (hG : X.A.guards = some []) (hr : Room k X.A) (hm : X.mg x = some (.ref f)) (hk : PySem.W.keepIn X.K (.ref f) = true)
    (hB : Binds X.K fd ps []) (ha : EJ X R Γ a ea mα) (hb : EJ X R Γ b eb mβ) (hc : EJ X R Γ c ec mγ) (hg : Gl X x := by rfl) (hdb : (x == ("__debug__" : Str)) = false := by decide) (has : starEach [a, b, c] X.env = (false, eval a X.env) :: starEach [b, c] X.env := by rfl) (hbs : starEach [b, c] X.env = (false, eval b X.env) :: starEach [c] X.env := by rfl) (hcs : starEach [c] X.env = (false, eval c X.env) :: starEach [] X.env := by rfl) (hΓ : Γ[i]? = some .src := by rfl) (hN : X.N[i]? = some y := by rfl) (hv : Vis X.env.scope y := by first | exact Or.inl rfl | exact Or.inr (Or.inl rfl) | exact Or.inr (Or.inr rfl)) (hyd : (y == ("__debug__" : Str)) = false := by decide) (hyc : (y == ("__classdict__" : Str)) = false := by decide) (hsrc : starEach (.Name y q :: [a, b, c]) X.env = (false, eval (.Name y q) X.env) :: starEach [a, b, c] X.env := by rfl) (hpl : (backTo pos (starEach [a, b, c] X.env)).any (·.1) = false := by rfl) :
    EJ X R Γ (.Call (.Name x p) [.Name y q, a, b, c] [] pos) er (bindM mα fun v0 => bindM mβ fun v1 => bindM mγ fun v2 => g v0 v1 v2) := by
  have h := e_callG (pos := pos) (p := p) F hG hr hm hk hB (a_src i (a_cons ha (a_cons hb (a_cons hc a_nil hcs) hbs) has) hΓ hN hv hyd hyc hsrc) hg hdb hsrc hpl
  simpa using h
theorem e_c4 {k : Nat} {f : Addr} {fd : FuncData} {ps : List Str} {x : Str} {p : Pos} {g : α → β → γ → δ → M ρ} {mα : M α} {mβ : M β} {mγ : M γ} {mδ : M δ} (F : FnG X.prog X.w X.K X.mg X.base k f fd ps (SpM (fun p : α × β × γ × δ × Unit => [.fz (ea p.1), .fz (eb p.2.1), .fz (ec p.2.2.1), .fz (ed p.2.2.2.1)]) er (fun p : α × β × γ × δ × Unit => g p.1 p.2.1 p.2.2.1 p.2.2.2.1))) (hG : X.A.guards = some []) (hr : Room k X.A) (hm : X.mg x = some (.ref f)) (hk : PySem.W.keepIn X.K (.ref f) = true)
    (hB : Binds X.K fd ps []) (ha : EJ X R Γ a ea mα) (hb : EJ X R Γ b eb mβ) (hc : EJ X R Γ c ec mγ) (hd : EJ X R Γ d ed mδ) (hg : Gl X x := by rfl) (hdb : (x == ("__debug__" : Str)) = false := by decide) (has : starEach [a, b, c, d] X.env = (false, eval a X.env) :: starEach [b, c, d] X.env := by rfl) (hbs : starEach [b, c, d] X.env = (false, eval b X.env) :: starEach [c, d] X.env := by rfl) (hcs : starEach [c, d] X.env = (false, eval c X.env) :: starEach [d] X.env := by rfl) (hds : starEach [d] X.env = (false, eval d X.env) :: starEach [] X.env := by rfl) (hpl : (backTo pos (starEach [b, c, d] X.env)).any (·.1) = false := by rfl) :
    EJ X R Γ (.Call (.Name x p) [a, b, c, d] [] pos) er (bindM mα fun v0 => bindM mβ fun v1 => bindM mγ fun v2 => bindM mδ fun v3 => g v0 v1 v2 v3) := by
  have h := e_callG (pos := pos) (p := p) F hG hr hm hk hB (a_cons ha (a_cons hb (a_cons hc (a_cons hd a_nil hds) hcs) hbs) has) hg hdb has hpl
  simpa using h
theorem e_cs4 {k : Nat} {f : Addr} {fd : FuncData} {ps : List Str} {x : Str} {p : Pos} {y : Str} {q : Pos} (i : Nat) {g : α → β → γ → δ → M ρ} {mα : M α} {mβ : M β} {mγ : M γ} {mδ : M δ} (F : FnG X.prog X.w X.K X.mg X.base k f fd ps (SpM (fun p : α × β × γ × δ × Unit => [.src, .fz (ea p.1), .fz (eb p.2.1), .fz (ec p.2.2.1), .fz (ed p.2.2.2.1)]) er (fun p : α × β × γ × δ × Unit => g p.1 p.2.1 p.2.2.1 p.2.2.2.1))) (hG : X.A.guards = some []) (hr : Room k X.A) (hm : X.mg x = some (.ref f)) (hk : PySem.W.keepIn X.K (.ref f) = true)
    (hB : Binds X.K fd ps []) (ha : EJ X R Γ a ea mα) (hb : EJ X R Γ b eb mβ) (hc : EJ X R Γ c ec mγ) (hd : EJ X R Γ d ed mδ) (hg : Gl X x := by rfl) (hdb : (x == ("__debug__" : Str)) = false := by decide) (has : starEach [a, b, c, d] X.env = (false, eval a X.env) :: starEach [b, c, d] X.env := by rfl) (hbs : starEach [b, c, d] X.env = (false, eval b X.env) :: starEach [c, d] X.env := by rfl) (hcs : starEach [c, d] X.env = (false, eval c X.env) :: starEach [d] X.env := by rfl) (hds : starEach [d] X.env = (false, eval d X.env) :: starEach [] X.env := by rfl) (hΓ : Γ[i]? = some .src := by rfl) (hN : X.N[i]? = some y := by rfl) (hv : Vis X.env.scope y := by first | exact Or.inl rfl | exact Or.inr (Or.inl rfl) | exact Or.inr (Or.inr rfl)) (hyd : (y == ("__debug__" : Str)) = false := by decide) (hyc : (y == ("__classdict__" : Str)) = false := by decide) (hsrc : starEach (.Name y q :: [a, b, c, d]) X.env = (false, eval (.Name y q) X.env) :: starEach [a, b, c, d] X.env := by rfl) (hpl : (backTo pos (starEach [a, b, c, d] X.env)).any (·.1) = false := by rfl) :
    EJ X R Γ (.Call (.Name x p) [.Name y q, a, b, c, d] [] pos) er (bindM mα fun v0 => bindM mβ fun v1 => bindM mγ fun v2 => bindM mδ fun v3 => g v0 v1 v2 v3) := by
  have h := e_callG (pos := pos) (p := p) F hG hr hm hk hB (a_src i (a_cons ha (a_cons hb (a_cons hc (a_cons hd a_nil hds) hcs) hbs) has) hΓ hN hv hyd hyc hsrc) hg hdb hsrc hpl
  simpa using h
theorem e_c5 {k : Nat} {f : Addr} {fd : FuncData} {ps : List Str} {x : Str} {p : Pos} {g : α → β → γ → δ → ζ → M ρ} {mα : M α} {mβ : M β} {mγ : M γ} {mδ : M δ} {mζ : M ζ} (F : FnG X.prog X.w X.K X.mg X.base k f fd ps (SpM (fun p : α × β × γ × δ × ζ × Unit => [.fz (ea p.1), .fz (eb p.2.1), .fz (ec p.2.2.1), .fz (ed p.2.2.2.1), .fz (ez p.2.2.2.2.1)]) er (fun p : α × β × γ × δ × ζ × Unit => g p.1 p.2.1 p.2.2.1 p.2.2.2.1 p.2.2.2.2.1))) (hG : X.A.guards = some []) (hr : Room k X.A) (hm : X.mg x = some (.ref f)) (hk : PySem.W.keepIn X.K (.ref f) = true)
    (hB : Binds X.K fd ps []) (ha : EJ X R Γ a ea mα) (hb : EJ X R Γ b eb mβ) (hc : EJ X R Γ c ec mγ) (hd : EJ X R Γ d ed mδ) (hz : EJ X R Γ z ez mζ) (hg : Gl X x := by rfl) (hdb : (x == ("__debug__" : Str)) = false := by decide) (has : starEach [a, b, c, d, z] X.env = (false, eval a X.env) :: starEach [b, c, d, z] X.env := by rfl) (hbs : starEach [b, c, d, z] X.env = (false, eval b X.env) :: starEach [c, d, z] X.env := by rfl) (hcs : starEach [c, d, z] X.env = (false, eval c X.env) :: starEach [d, z] X.env := by rfl) (hds : starEach [d, z] X.env = (false, eval d X.env) :: starEach [z] X.env := by rfl) (hzs : starEach [z] X.env = (false, eval z X.env) :: starEach [] X.env := by rfl) (hpl : (backTo pos (starEach [b, c, d, z] X.env)).any (·.1) = false := by rfl) :
    EJ X R Γ (.Call (.Name x p) [a, b, c, d, z] [] pos) er (bindM mα fun v0 => bindM mβ fun v1 => bindM mγ fun v2 => bindM mδ fun v3 => bindM mζ fun v4 => g v0 v1 v2 v3 v4) := by
  have h := e_callG (pos := pos) (p := p) F hG hr hm hk hB (a_cons ha (a_cons hb (a_cons hc (a_cons hd (a_cons hz a_nil hzs) hds) hcs) hbs) has) hg hdb has hpl
  simpa using h
theorem e_cs5 {k : Nat} {f : Addr} {fd : FuncData} {ps : List Str} {x : Str} {p : Pos} {y : Str} {q : Pos} (i : Nat) {g : α → β → γ → δ → ζ → M ρ} {mα : M α} {mβ : M β} {mγ : M γ} {mδ : M δ} {mζ : M ζ} (F : FnG X.prog X.w X.K X.mg X.base k f fd ps (SpM (fun p : α × β × γ × δ × ζ × Unit => [.src, .fz (ea p.1), .fz (eb p.2.1), .fz (ec p.2.2.1), .fz (ed p.2.2.2.1), .fz (ez p.2.2.2.2.1)]) er (fun p : α × β × γ × δ × ζ × Unit => g p.1 p.2.1 p.2.2.1 p.2.2.2.1 p.2.2.2.2.1))) (hG : X.A.guards = some []) (hr : Room k X.A) (hm : X.mg x = some (.ref f)) (hk : PySem.W.keepIn X.K (.ref f) = true)
    (hB : Binds X.K fd ps []) (ha : EJ X R Γ a ea mα) (hb : EJ X R Γ b eb mβ) (hc : EJ X R Γ c ec mγ) (hd : EJ X R Γ d ed mδ) (hz : EJ X R Γ z ez mζ) (hg : Gl X x := by rfl) (hdb : (x == ("__debug__" : Str)) = false := by decide) (has : starEach [a, b, c, d, z] X.env = (false, eval a X.env) :: starEach [b, c, d, z] X.env := by rfl) (hbs : starEach [b, c, d, z] X.env = (false, eval b X.env) :: starEach [c, d, z] X.env := by rfl) (hcs : starEach [c, d, z] X.env = (false, eval c X.env) :: starEach [d, z] X.env := by rfl) (hds : starEach [d, z] X.env = (false, eval d X.env) :: starEach [z] X.env := by rfl) (hzs : starEach [z] X.env = (false, eval z X.env) :: starEach [] X.env := by rfl) (hΓ : Γ[i]? = some .src := by rfl) (hN : X.N[i]? = some y := by rfl) (hv : Vis X.env.scope y := by first | exact Or.inl rfl | exact Or.inr (Or.inl rfl) | exact Or.inr (Or.inr rfl)) (hyd : (y == ("__debug__" : Str)) = false := by decide) (hyc : (y == ("__classdict__" : Str)) = false := by decide) (hsrc : starEach (.Name y q :: [a, b, c, d, z]) X.env = (false, eval (.Name y q) X.env) :: starEach [a, b, c, d, z] X.env := by rfl) (hpl : (backTo pos (starEach [a, b, c, d, z] X.env)).any (·.1) = false := by rfl) :
    EJ X R Γ (.Call (.Name x p) [.Name y q, a, b, c, d, z] [] pos) er (bindM mα fun v0 => bindM mβ fun v1 => bindM mγ fun v2 => bindM mδ fun v3 => bindM mζ fun v4 => g v0 v1 v2 v3 v4) := by
  have h := e_callG (pos := pos) (p := p) F hG hr hm hk hB (a_src i (a_cons ha (a_cons hb (a_cons hc (a_cons hd (a_cons hz a_nil hzs) hds) hcs) hbs) has) hΓ hN hv hyd hyc hsrc) hg hdb hsrc hpl
  simpa using h
theorem e_cs0 {k : Nat} {f : Addr} {fd : FuncData} {ps : List Str} {x y : Str} {p q : Pos} (i : Nat) {g : M ρ} (F : FnG X.prog X.w X.K X.mg X.base k f fd ps (SpM (fun _ : Unit => [.src]) er (fun _ => g))) (hG : X.A.guards = some []) (hr : Room k X.A) (hm : X.mg x = some (.ref f)) (hk : PySem.W.keepIn X.K (.ref f) = true)
    (hB : Binds X.K fd ps []) (hg : Gl X x := by rfl) (hdb : (x == ("__debug__" : Str)) = false := by decide) (hΓ : Γ[i]? = some .src := by rfl) (hN : X.N[i]? = some y := by rfl) (hv : Vis X.env.scope y := by first | exact Or.inl rfl | exact Or.inr (Or.inl rfl) | exact Or.inr (Or.inr rfl)) (hyd : (y == ("__debug__" : Str)) = false := by decide) (hyc : (y == ("__classdict__" : Str)) = false := by decide)
    (hsrc : starEach [.Name y q] X.env = (false, eval (.Name y q) X.env) :: starEach [] X.env := by rfl) : EJ X R Γ (.Call (.Name x p) [.Name y q] [] pos) er g := by
  have h := e_callG (R := R) (pos := pos) (p := p) F hG hr hm hk hB (a_src i a_nil hΓ hN hv hyd hyc hsrc) hg hdb hsrc rfl
  simpa using h
end
end Pz

namespace Pz
open PySem PySem.Spec PyProof.Rows L2
/-! ### the draws -/
def drawC : Nat → List Int → Int → List Int × Int
  | 0, c, l => (c, l)
  | n + 1, c, l => if l < 2 then (match c.getLast? with
    | some y => drawC n c.dropLast y
    | none => (c, l)) else (c, l)
def pickM (most : Int) : M Int := fun s =>
  if most < 2 then some (0, s) else if 1073741824 ≤ most then none else
  let q := drawC s.cells.length s.cells s.left
  if 1 < q.2 then some (q.2.fmod most, ⟨q.1, q.2.fdiv most, s.mixed, s.turn⟩)
  else
    let t := s.turn + 1
    let a := (s.mixed + t * 104729).fmod 998244353
    let b := (a * a + t * 17).fmod 2147483647
    some ((b.fdiv 16).fmod most, ⟨q.1, q.2, s.mixed, t⟩)
/-- a drawn number lies where it is asked to -/
theorem pick_lt {most : Int} (h : most < 1073741824) (s : Src) : ∃ r s', pickM most s = some (r, s') ∧ 0 ≤ r ∧ (r < most ∨ r = 0) := by
  unfold pickM
  by_cases h2 : most < 2
  · rw [if_pos h2]; exact ⟨0, s, rfl, Int.le_refl 0, .inr rfl⟩
  · rw [if_neg h2, if_neg (by omega)]
    have pos : 0 < most := by omega
    dsimp only
    split
    · exact ⟨_, _, rfl, Int.fmod_nonneg_of_pos _ pos, .inl (Int.fmod_lt_of_pos _ pos)⟩
    · exact ⟨_, _, rfl, Int.fmod_nonneg_of_pos _ pos, .inl (Int.fmod_lt_of_pos _ pos)⟩
theorem drawC_stop : ∀ (n : Nat) (c : List Int) (l : Int), ¬ l < 2 → drawC n c l = (c, l)
  | 0, _, _, _ => rfl
  | n + 1, c, l, h => by unfold drawC; rw [if_neg h]
theorem drawC_nil : ∀ (n : Nat) (l : Int), drawC n [] l = ([], l)
  | 0, _ => rfl
  | n + 1, l => by unfold drawC; split <;> rfl
theorem drawC_snoc (c : List Int) (y l : Int) (h : l < 2) : drawC (c ++ [y]).length (c ++ [y]) l = drawC c.length c y := by
  rw [List.length_append, List.length_singleton]
  conv => lhs; unfold drawC
  rw [if_pos h, List.getLast?_concat, List.dropLast_concat]
def srcKv (c : Addr) (l m t : Int) : List (Key × V) := [(.inr "cells", .ref c), (.inr "left", .int l), (.inr "mixed", .int m), (.inr "turn", .int t)]
theorem src_cells (c : Addr) (l m t : Int) : valV (srcKv c l m t) (.inr "cells") = some (.ref c) := rfl
theorem src_left (c : Addr) (l m t : Int) : valV (srcKv c l m t) (.inr "left") = some (.int l) := rfl
theorem src_mixed (c : Addr) (l m t : Int) : valV (srcKv c l m t) (.inr "mixed") = some (.int m) := rfl
theorem src_turn (c : Addr) (l m t : Int) : valV (srcKv c l m t) (.inr "turn") = some (.int t) := rfl
theorem put_left (c : Addr) (l m t x : Int) : putK (srcKv c l m t) (.inr "left") (.int x) = srcKv c x m t := rfl
theorem put_mixed (c : Addr) (l m t x : Int) : putK (srcKv c l m t) (.inr "mixed") (.int x) = srcKv c l x t := rfl
theorem put_turn (c : Addr) (l m t x : Int) : putK (srcKv c l m t) (.inr "turn") (.int x) = srcKv c l m x := rfl
theorem srcKv_few (c : Addr) (l m t : Int) : (srcKv c l m t).length < sizeLine := by show 4 < sizeLine; decide
/-- where a draw stands behind its loop -/
def tDrawn (a c : Addr) (most : Int) (st : Src) (H : Hp) (Q : VK) : TS := fun D σ H' => ∃ cs l, σ = [some (.ref a), some (.int most), some (.ref c), none, none, none] ∧ H' a = some (.dK (srcKv c l st.mixed st.turn)) ∧ H' c = some (.lst (cs.map V.int)) ∧
  drawC st.cells.length st.cells st.left = (cs, l) ∧ Keep (Zr (some (a, c))) H H' ∧ ∀ z H2, Q (.int z) H2 → D.rt (.int z) H2
end Pz

namespace Pz
open PySem PySem.Spec PyProof.Rows L2
/-! ### what the walks of one law share -/
/-- a def that is called: found, kept, its arguments bound -/
structure Cal (K : PySem.W.Frag) (mg : Str → Option Value) (x : Str) (f : Addr) (fd : FuncData) (ps : List Str) : Prop where
  mg : mg x = some (.ref f)
  kp : PySem.W.keepIn K (.ref f) = true
  bd : Binds K fd ps []
/-- the built-ins that no global name hides -/
structure Bl (mg : Str → Option Value) : Prop where
  b_len : mg "len" = none
  b_int : mg "int" = none
  b_abs : mg "abs" = none
  b_range : mg "range" = none
  b_sorted : mg "sorted" = none
  b_sum : mg "sum" = none
  b_all : mg "all" = none
  b_any : mg "any" = none
  b_tuple : mg "tuple" = none
  b_list : mg "list" = none
  b_max : mg "max" = none
  b_min : mg "min" = none
  b_repr : mg "repr" = none
  b_enumerate : mg "enumerate" = none
  b_zip : mg "zip" = none
  b_isinstance : mg "isinstance" = none
  b_bool : mg "bool" = none
  b_str : mg "str" = none
  b_dict : mg "dict" = none
theorem bt_len : bootBuiltins "len" = some (.builtin "len") := by decide +kernel
theorem bt_int : bootBuiltins "int" = some (.type "int") := by decide +kernel
theorem bt_abs : bootBuiltins "abs" = some (.builtin "abs") := by decide +kernel
theorem bt_sorted : bootBuiltins "sorted" = some (.builtin "sorted") := by decide +kernel
theorem bt_sum : bootBuiltins "sum" = some (.builtin "sum") := by decide +kernel
theorem bt_all : bootBuiltins "all" = some (.builtin "all") := by decide +kernel
theorem bt_any : bootBuiltins "any" = some (.builtin "any") := by decide +kernel
theorem bt_tuple : bootBuiltins "tuple" = some (.type "tuple") := by decide +kernel
theorem bt_list : bootBuiltins "list" = some (.type "list") := by decide +kernel
theorem bt_max : bootBuiltins "max" = some (.builtin "max") := by decide +kernel
theorem bt_min : bootBuiltins "min" = some (.builtin "min") := by decide +kernel
theorem bt_repr : bootBuiltins "repr" = some (.builtin "repr") := by decide +kernel
theorem bt_bool : bootBuiltins "bool" = some (.type "bool") := by decide +kernel
theorem bt_str : bootBuiltins "str" = some (.type "str") := by decide +kernel
theorem bt_dict : bootBuiltins "dict" = some (.type "dict") := by decide +kernel
theorem bt_isinstance : bootBuiltins "isinstance" = some (.builtin "isinstance") := by decide +kernel
/-- _law_of, for every kind of items -/
def ofM {α : Type} (xs : List α) : M α := bindM (pureM xs) fun x => bindM (bindM (bindM (pureM xs) fun y => pureM (y.length : Int)) fun n => pickM n) fun i => optM (atI x i)
structure OfG (P : Program) (w : World) (K : PySem.W.Frag) (mg : Str → Option Value) (base : Heap) (f : Addr) (fd : FuncData) : Prop where
  L : ∀ {α : Type} (ea : α → PyData), FnG P w K mg base 2 f fd ["source", "some"] (SpM (fun p : List α × Unit => [.src, .fz (eL ea p.1)]) ea (fun p => ofM p.1))
  T : ∀ {α : Type} (ea : α → PyData), FnG P w K mg base 2 f fd ["source", "some"] (SpM (fun p : List α × Unit => [.src, .fz (eT ea p.1)]) ea (fun p => ofM p.1))
section
variable {α β γ δ κ ρ ι : Type} {ea : α → PyData} {eb : β → PyData} {ec : γ → PyData} {er : ρ → PyData} {ei : ι → PyData} {X : Cx} {R : Res} {Γ Γ' : List Slot} {e a b c : Expr} {st : Stmt} {rest A B body : List Stmt} {pos : Pos} {out : κ → OutD}
theorem e_eqB {ma mb : M Bool} (ha : EJ X R Γ a eBool ma) (hb : EJ X R Γ b eBool mb) : EJ X R Γ (.Compare a [.Eq] [b] pos) eBool (bindM ma fun x => bindM mb fun y => pureM (decide (x = y))) := e_cmp op_eq v_eqB ha hb
theorem e_neB {ma mb : M Bool} (ha : EJ X R Γ a eBool ma) (hb : EJ X R Γ b eBool mb) : EJ X R Γ (.Compare a [.NotEq] [b] pos) eBool (bindM ma fun x => bindM mb fun y => pureM (!decide (x = y))) := e_cmp op_ne v_neB ha hb
theorem t_eqB {ma mb : M Bool} (ha : EJ X R Γ a eBool ma) (hb : EJ X R Γ b eBool mb) : TJ X R Γ (.Compare a [.Eq] [b] pos) (bindM ma fun x => bindM mb fun y => pureM (decide (x = y))) := t_cmp op_eq v_eqB ha hb
theorem t_neB {ma mb : M Bool} (ha : EJ X R Γ a eBool ma) (hb : EJ X R Γ b eBool mb) : TJ X R Γ (.Compare a [.NotEq] [b] pos) (bindM ma fun x => bindM mb fun y => pureM (!decide (x = y))) := t_cmp op_ne v_neB ha hb
theorem e_eqD {k : Nat} {ma : M α} {mb : M β} (hr : Room k X.A) (ha : EJ X R Γ a ea ma) (hb : EJ X R Γ b eb mb) : EJ X R Γ (.Compare a [.Eq] [b] pos) eBool (bindM ma fun x => bindM mb fun y => optM (eqD (ea x) (eb y))) := e_cmp (op_eqP hr.units) v_eqD ha hb
theorem e_neD {k : Nat} {ma : M α} {mb : M β} (hr : Room k X.A) (ha : EJ X R Γ a ea ma) (hb : EJ X R Γ b eb mb) : EJ X R Γ (.Compare a [.NotEq] [b] pos) eBool (bindM ma fun x => bindM mb fun y => optM ((eqD (ea x) (eb y)).map (!·))) := e_cmp (op_neP hr.units) v_neD ha hb
theorem t_eqD {k : Nat} {ma : M α} {mb : M β} (hr : Room k X.A) (ha : EJ X R Γ a ea ma) (hb : EJ X R Γ b eb mb) : TJ X R Γ (.Compare a [.Eq] [b] pos) (bindM ma fun x => bindM mb fun y => optM (eqD (ea x) (eb y))) := t_cmp (op_eqP hr.units) v_eqD ha hb
theorem t_neD {k : Nat} {ma : M α} {mb : M β} (hr : Room k X.A) (ha : EJ X R Γ a ea ma) (hb : EJ X R Γ b eb mb) : TJ X R Γ (.Compare a [.NotEq] [b] pos) (bindM ma fun x => bindM mb fun y => optM ((eqD (ea x) (eb y)).map (!·))) := t_cmp (op_neP hr.units) v_neD ha hb
end
end Pz

namespace Pz
open PySem PySem.Spec PyProof.Rows L2
def spSource (K : PySem.W.Frag) : Sp := fun vs H Q _ => ∃ (a : Addr) (ns : List Int), vs = [.ref a] ∧ SqL K H a (ns.map V.int) ∧ ns.length ≤ 63 ∧ ∀ s c st H', H s = none → H c = none → SrcAt s c st H' → Same H H' → Q (.ref s) H'
/-- law(script): the draws, then what the rest says -/
theorem law_ok {P : Program} {w : World} {K : PySem.W.Frag} {mg : Str → Option Value} {base : Heap} {st : Stmt} {f : Addr} {fd : FuncData} {N N' : List Str} {k : Nat} {fs : Addr} {ds : FuncData} {rest : List Stmt} {p1 p2 p3 p4 p5 : Pos} {sn : Str}
    (F : Fun K "law" "law" st f fd) (S : FnScope N ["script"] (defScope st)) (hN : N = ("script" : Str) :: ("source" : Str) :: N') (hb : defBody st = .Assign [.Name "source" p1] (.Call (.Name sn p2) [.Name "script" p3] [] p4) p5 :: rest)
    (C : Cal K mg sn fs ds ["script"]) (Fs : FnG P w K mg base k fs ds ["script"] (spSource K)) (m : M Bool) (hm : ∀ st, ∃ st', m st = some (true, st'))
    (loc : Loc (defScope st) "source" ∧ Vis (defScope st) "script")
    (gl : ∀ (cdv : Value) (A : Around) (above : List Env) (s : Shared) (H : Hp) (E : XK), (sn == ("__debug__" : Str)) = false ∧ Gl (BX P w K mg base N "law" st f cdv A above s H E) sn ∧ starEach [Expr.Name "script" p3] (BX P w K mg base N "law" st f cdv A above s H E).env = (false, eval (.Name "script" p3) (BX P w K mg base N "law" st f cdv A above s H E).env) :: starEach [] (BX P w K mg base N "law" st f cdv A above s H E).env ∧
      swapsWith (.Call (.Name sn p2) [.Name "script" p3] [] p4) (some (.Name "source" p1)) p5.line (BX P w K mg base N "law" st f cdv A above s H E).env = pure false ∧ ((BX P w K mg base N "law" st f cdv A above s H E).fn "source" = true ∨ (BX P w K mg base N "law" st f cdv A above s H E).env.scope.names.lookup ("source" : Str) = some .local))
    (body : ∀ (cdv : Value) (A : Around) (above : List Env) (s : Shared) (H : Hp) (E : XK) (R : Res), A.guards = some [] → Room k (A.deeper (envOfC "law" (defScope st) s.heap.objs.size f cdv)) →
      SJ (BX P w K mg base N "law" st f cdv A above s H E) R (.un :: .src :: List.replicate N'.length .un) rest (fun r => .rt (eBool r)) m) :
    FnG P w K mg base (k + 1) f fd ["script"] (SpLaw K) := by
  refine g_def F S (fun vs H Q E ⟨a, ns, e, _⟩ => by rw [e]; rfl) (fun cdv A above s H vs Q E hG hr h => ?_)
  obtain ⟨a, ns, rfl, hS, hlen, _, q⟩ := h
  obtain ⟨g0, g1, g2, g3, g4⟩ := gl cdv A above s H E
  rw [hb]
  subst hN
  refine ⟨_, pss_cons (ps_set (i := 1) S.nd rfl loc.1 (pe_callG Fs hG hr g1 C.mg C.kp C.bd (pa_cons (pe_var (i := 0) rfl loc.2 (by decide) (by decide)) pa_nil g2) g0 g2 rfl) g3 g4)
    (PSs.ex fun R => body cdv A above s H E R hG hr), ?_⟩
  refine ⟨_, rfl, ?_⟩
  refine ⟨a, ns, rfl, hS, hlen, fun sa c st H' ns nc hat hsame => ?_⟩
  obtain ⟨st', hst⟩ := hm st
  refine ⟨some (sa, c), Zr (some (sa, c)), H', fun _ => 0, st, true, st', ?_, hat, hst, fun v H2 _ _ r => by cases r; exact q H2⟩
  refine ⟨by simp [L2.start], fun i d e => ?_, fun i d e => ?_, fun i e => ?_, fun i j d d' e => ?_, Keep.refl H', fun x z => z, fun x z => okR.dom (R := some (sa, c)) hat z⟩
  · rcases i with _ | _ | i
    · cases e
    · cases e
    · have := List.mem_of_getElem? (show (List.replicate N'.length Slot.un)[i]? = some _ from e)
      rw [List.mem_replicate] at this
      cases this.2
  · rcases i with _ | _ | i
    · cases e
    · cases e
    · have := List.mem_of_getElem? (show (List.replicate N'.length Slot.un)[i]? = some _ from e)
      rw [List.mem_replicate] at this
      cases this.2
  · rcases i with _ | _ | i
    · cases e
    · exact ⟨sa, c, rfl, rfl⟩
    · have := List.mem_of_getElem? (show (List.replicate N'.length Slot.un)[i]? = some _ from e)
      rw [List.mem_replicate] at this
      cases this.2
  · rcases i with _ | _ | i
    · cases e
    · cases e
    · have := List.mem_of_getElem? (show (List.replicate N'.length Slot.un)[i]? = some _ from e)
      rw [List.mem_replicate] at this
      cases this.2
end Pz

/-! the plain side: what a reading hands back -/
namespace Pz
open PySem PySem.Spec PyProof.Rows L2

theorem bp {α β : Type} (a : α) (f : α → M β) : bindM (pureM a) f = f a := funext fun _ => Eq.trans rfl rfl
theorem nil_le {α : Type} {xs : List α} {n m : Nat} (h : xs.length ≤ n) (k : n ≤ m := by decide) : ([] : List α).length + xs.length ≤ m := by simp; omega
def Sat {α : Type} (m : M α) (Q : α → Prop) : Prop := ∀ st, ∃ r st', m st = some (r, st') ∧ Q r
section
variable {α β γ κ ρ ι : Type}
theorem Sat.pure {a : α} {Q : α → Prop} (h : Q a) : Sat (pureM a) Q := fun st => ⟨a, st, rfl, h⟩
theorem Sat.bind {m : M α} {f : α → M β} {Q : β → Prop} (h : Sat m fun a => Sat (f a) Q) : Sat (bindM m f) Q := fun st => by
  obtain ⟨a, u, e, q⟩ := h st
  obtain ⟨b, v, e2, q2⟩ := q u
  exact ⟨b, v, by unfold bindM; rw [e]; exact e2, q2⟩
theorem Sat.mono {m : M α} {Q Q' : α → Prop} (h : Sat m Q) (k : ∀ a, Q a → Q' a) : Sat m Q' := fun st => let ⟨a, u, e, q⟩ := h st; ⟨a, u, e, k a q⟩
theorem Sat.bind2 {m : M α} {f : α → M β} {Q : α → Prop} {Q' : β → Prop} (h : Sat m Q) (k : ∀ a, Q a → Sat (f a) Q') : Sat (bindM m f) Q' := Sat.bind (h.mono k)
theorem Sat.opt {o : Option α} {a : α} {Q : α → Prop} (h : o = some a) (q : Q a) : Sat (optM o) Q := by subst h; exact .pure q
theorem Sat.pick {n : Int} {Q : Int → Prop} (h : n < 1073741824) (q : ∀ r, 0 ≤ r → (r < n ∨ r = 0) → Q r) : Sat (pickM n) Q := fun st => by
  obtain ⟨r, s', e, h0, h1⟩ := pick_lt h st
  exact ⟨r, s', e, q r h0 h1⟩
theorem atI_nat {xs : List α} {i : Nat} (h : i < xs.length) : atI xs (i : Int) = some xs[i] := by
  unfold atI L2.ixN
  rw [if_pos (by omega), if_pos (by omega)]
  simp [h]
theorem Sat.ite {c : Bool} {a b : M α} {Q : α → Prop} (h1 : c = true → Sat a Q) (h2 : c = false → Sat b Q) : Sat (if c then a else b) Q := by
  cases c
  · exact h2 rfl
  · exact h1 rfl
theorem Sat.ofList {xs : List α} {Q : α → Prop} (h0 : xs ≠ []) (hl : xs.length < 1073741824) (q : ∀ x ∈ xs, Q x) : Sat (ofM xs) Q := by
  unfold ofM
  have pos : 0 < xs.length := List.length_pos_iff.mpr h0
  simp only [bind_pure]
  refine Sat.bind2 (Sat.pick (by omega) fun r h1 h2 => (show 0 ≤ r ∧ r < xs.length by omega)) fun r h => ?_
  obtain ⟨i, rfl⟩ : ∃ i : Nat, r = i := ⟨r.toNat, by omega⟩
  have hi : i < xs.length := by omega
  exact Sat.opt (a := xs[i]) (atI_nat hi) (q _ (List.getElem_mem hi))
theorem Sat.forM {f : β → ι → M β} {I : β → Prop} : ∀ {xs : List ι} {b0 : β}, I b0 → (∀ b, ∀ x ∈ xs, I b → Sat (f b x) I) → Sat (forM' f xs b0) I
  | [], b0, h0, _ => .pure h0
  | x :: xs, b0, h0, h => by
    unfold forM'
    exact .bind2 (h b0 x List.mem_cons_self h0) fun b hb => Sat.forM hb fun b y hy => h b y (List.mem_cons_of_mem _ hy)
theorem Sat.forO {f : β → ι → M (Out ρ β)} {I : β → Prop} : ∀ {xs : List ι} {b0 : β}, I b0 → (∀ b, ∀ x ∈ xs, I b → Sat (f b x) fun o => ∃ b, o = .nx b ∧ I b) → Sat (forO f xs b0) fun o => ∃ b, o = .nx b ∧ I b
  | [], b0, h0, _ => .pure ⟨b0, rfl, h0⟩
  | x :: xs, b0, h0, h => by
    unfold Pz.forO
    refine .bind2 (h b0 x List.mem_cons_self h0) fun o ho => ?_
    obtain ⟨b, rfl, hb⟩ := ho
    exact Sat.forO hb fun b y hy => h b y (List.mem_cons_of_mem _ hy)
theorem Sat.comp {c : ι → M Bool} {f : ι → M γ} {Q : γ → Prop} : ∀ {xs : List ι}, (∀ x ∈ xs, Sat (c x) fun b => b = true → Sat (f x) Q) → Sat (compM c f xs) fun ys => ys.length ≤ xs.length ∧ ∀ y ∈ ys, Q y
  | [], _ => .pure ⟨Nat.le_refl _, by simp⟩
  | x :: xs, h => by
    unfold compM
    have ih := Sat.comp (xs := xs) fun y hy => h y (List.mem_cons_of_mem _ hy)
    refine .bind2 (h x List.mem_cons_self) fun b hb => ?_
    cases b with
    | false => exact ih.mono fun ys hy => ⟨Nat.le_trans hy.1 (by simp), hy.2⟩
    | true => exact .bind2 (hb rfl) fun y hy => .bind2 ih fun ys hys => .pure ⟨by simp; exact hys.1, by
        intro z hz
        rcases List.mem_cons.mp hz with rfl | hz
        · exact hy
        · exact hys.2 z hz⟩
theorem Sat.compAll {f : ι → M γ} {Q : γ → Prop} : ∀ {xs : List ι}, (∀ x ∈ xs, Sat (f x) Q) → Sat (compM (fun _ => pureM true) f xs) fun ys => ys.length = xs.length ∧ ∀ y ∈ ys, Q y
  | [], _ => .pure ⟨rfl, by simp⟩
  | x :: xs, h => by
    unfold compM
    have ih := Sat.compAll (xs := xs) fun y hy => h y (List.mem_cons_of_mem _ hy)
    simp only [bind_pure, if_true]
    exact .bind2 (h x List.mem_cons_self) fun y hy => .bind2 ih fun ys hys => .pure ⟨by simp; exact hys.1, by
        intro z hz
        rcases List.mem_cons.mp hz with rfl | hz
        · exact hy
        · exact hys.2 z hz⟩

/-! ### readings that draw nothing -/
theorem compM_pure {c : ι → M Bool} {f : ι → M γ} (cc : ι → Bool) (ff : ι → γ) : ∀ {xs : List ι}, (∀ x ∈ xs, c x = pureM (cc x)) → (∀ x ∈ xs, cc x = true → f x = pureM (ff x)) → compM c f xs = pureM ((xs.filter cc).map ff)
  | [], _, _ => rfl
  | x :: xs, hc, hf => by
    unfold compM
    rw [hc x List.mem_cons_self, bind_pure, compM_pure cc ff (fun y hy => hc y (List.mem_cons_of_mem _ hy)) fun y hy => hf y (List.mem_cons_of_mem _ hy)]
    cases h : cc x with
    | false => simp [h]
    | true => simp [h, hf x List.mem_cons_self h]
theorem compM_map {f : ι → M γ} (ff : ι → γ) {xs : List ι} (hf : ∀ x ∈ xs, f x = pureM (ff x)) : compM (fun _ => pureM true) f xs = pureM (xs.map ff) := by
  have e := compM_pure (c := fun _ : ι => pureM true) (fun _ => true) ff (fun _ _ => rfl) fun x hx _ => hf x hx
  rw [List.filter_eq_self.mpr (fun _ _ => rfl)] at e
  exact e
theorem forM_acc {f : List γ → ι → M (List γ)} (h : ι → List γ) (n : Nat) : ∀ {xs : List ι} {b : List γ}, (∀ x ∈ xs, ∀ b, b.length + (h x).length ≤ n → f b x = pureM (b ++ h x)) → b.length + (xs.flatMap h).length ≤ n → forM' f xs b = pureM (b ++ xs.flatMap h)
  | [], b, _, _ => by simp [forM']
  | x :: xs, b, hf, hn => by
    unfold forM'
    simp only [List.flatMap_cons, List.length_append] at hn
    rw [hf x List.mem_cons_self b (by omega), bind_pure, forM_acc h n (fun y hy => hf y (List.mem_cons_of_mem _ hy)) (by simp only [List.length_append]; omega)]
    simp [List.flatMap_cons]
theorem forM_fold {f : β → ι → M β} (g : β → ι → β) (I : β → Prop) : ∀ {xs : List ι} {b : β}, (∀ x ∈ xs, ∀ b, I b → f b x = pureM (g b x) ∧ I (g b x)) → I b → forM' f xs b = pureM (xs.foldl g b)
  | [], _, _, _ => rfl
  | x :: xs, b, hf, hb => by
    unfold forM'
    obtain ⟨e, i⟩ := hf x List.mem_cons_self b hb
    rw [e, bind_pure, forM_fold g I (fun y hy => hf y (List.mem_cons_of_mem _ hy)) i]
    rfl
/-- for x in xs: if c(x): return r(x) -/
theorem forO_find {f : β → ι → M (Out ρ β)} (c : ι → Bool) (r : ι → ρ) (b : β) : ∀ {xs : List ι}, (∀ x ∈ xs, f b x = pureM (if c x then .rt (r x) else .nx b)) → forO f xs b = pureM (match xs.find? c with | some x => .rt (r x) | none => .nx b)
  | [], _ => rfl
  | x :: xs, hf => by
    unfold forO
    rw [hf x List.mem_cons_self, bind_pure]
    cases h : c x with
    | true => simp [List.find?, h]
    | false =>
      simp only [Bool.false_eq_true, if_false]
      rw [forO_find c r b fun y hy => hf y (List.mem_cons_of_mem _ hy)]
      simp [List.find?, h]
theorem smallM_pure {xs : List α} (h : xs.length ≤ sizeLine) : smallM (pureM xs) = pureM xs := by unfold smallM; rw [bind_pure, if_pos h]
theorem rangeM_ok {lo hi : Int} (h1 : -(2 ^ 61) ≤ lo) (h2 : lo ≤ 2 ^ 61) (h3 : -(2 ^ 61) ≤ hi) (h4 : hi ≤ 2 ^ 61) (h5 : (hi - lo).toNat ≤ 16777216) : rangeM lo hi = pureM (irange lo hi) := by
  unfold rangeM; rw [if_pos ⟨h1, h2, h3, h4, h5⟩]
theorem rangeM_sm {lo hi : Int} (h1 : -1000000 ≤ lo) (h2 : lo ≤ 1000000) (h3 : -1000000 ≤ hi) (h4 : hi ≤ 1000000) : rangeM lo hi = pureM (irange lo hi) := rangeM_ok (by omega) (by omega) (by omega) (by omega) (by omega)
theorem mem_irange {lo hi i : Int} : i ∈ irange lo hi ↔ lo ≤ i ∧ i < hi := by
  unfold irange
  simp only [List.mem_map, List.mem_range]
  constructor
  · rintro ⟨j, h, rfl⟩; omega
  · rintro ⟨h1, h2⟩; exact ⟨(i - lo).toNat, by omega, by omega⟩
@[simp] theorem length_irange {lo hi : Int} : (irange lo hi).length = (hi - lo).toNat := by simp [irange]
theorem appM_ok {xs : List α} {x : α} (h : xs.length < sizeLine) : appM xs x = pureM (xs ++ [x]) := by unfold appM; rw [if_pos h]
theorem extM_ok {xs ys : List α} (h : xs.length + ys.length ≤ sizeLine) : extM xs ys = pureM (xs ++ ys) := by unfold extM; rw [if_pos h]
theorem catO_ok {xs ys : List α} (h : xs.length + ys.length ≤ sizeLine) : catO xs ys = some (xs ++ ys) := by unfold catO; rw [if_pos h]
theorem mulO_ok {x y : Int} (h : x.natAbs < 2 ^ 64 ∨ y.natAbs < 2 ^ 64) : mulO x y = some (x * y) := by unfold mulO; rw [if_pos h]
theorem divO_ok {x y : Int} (h : y ≠ 0 ∧ y.natAbs < 1073741824) : divO x y = some (x.fdiv y) := by unfold divO; rw [if_pos h]
theorem modO_ok {x y : Int} (h : y ≠ 0) : modO x y = some (x.fmod y) := by unfold modO; rw [if_pos h]
theorem powO_ok {x y : Int} (h : 0 ≤ y ∧ y ≤ 1000000 ∧ x.natAbs < 2 ^ 64) : powO x y = some (x ^ y.toNat) := by unfold powO; rw [if_pos h]
theorem atI_ok {xs : List α} {i : Int} (h0 : 0 ≤ i) (h : i < xs.length) : ∃ x, atI xs i = some x ∧ xs[i.toNat]? = some x := by
  obtain ⟨j, rfl⟩ : ∃ j : Nat, i = j := ⟨i.toNat, by omega⟩
  have hj : j < xs.length := by omega
  exact ⟨xs[j], atI_nat hj, by simp [hj]⟩

/-! ### texts of data -/
structure Sh (dp wt : Nat) (d : PyData) : Prop where
  show_ : d.showable = true
  dic : d.hasDict = false
  dep : d.depth ≤ dp
  leaf : d.leavesShort 40 = true
  wgt : d.weight ≤ wt
theorem reprO_ok {wt : Nat} {d : PyData} (h : Sh 60 wt d) (hw : 42 * wt + 40 ≤ 16777216 := by decide) : reprO d = some d.shown := by
  unfold reprO
  exact if_pos ⟨h.show_, fun z => (by rw [h.dic] at z; cases z), h.dep, (by
    have h1 := PyData.shown_le 40 (by decide) d h.leaf
    have h2 : (40 + 2) * d.weight ≤ (40 + 2) * wt := Nat.mul_le_mul_left _ h.wgt
    rw [sizeLine_eq]
    omega)⟩
theorem Sh.mono {dp wt dp' wt' : Nat} {d : PyData} (h : Sh dp wt d) (h1 : dp ≤ dp') (h2 : wt ≤ wt') : Sh dp' wt' d := ⟨h.show_, h.dic, Nat.le_trans h.dep h1, h.leaf, Nat.le_trans h.wgt h2⟩
theorem log2_lt {n : Nat} (h : n < 10 ^ 12) : n.log2 < 40 := by
  by_cases h0 : n = 0
  · subst h0; decide
  · exact (Nat.log2_lt h0).mpr (Nat.lt_trans h (by decide))
theorem Sh.int {i : Int} (h : i.natAbs < 10 ^ 12) : Sh 0 40 (eInt i) := by
  have hl := log2_lt h
  refine ⟨by simp only [eInt, PyData.showable, decide_eq_true_eq]; omega, rfl, by simp [eInt, PyData.depth], by simp only [eInt, PyData.leavesShort, decide_eq_true_eq]; exact Nat.le_trans (PyData.shown_int_le h) (by decide), ?_⟩
  simp only [eInt, PyData.weight]
  split <;> omega
theorem Sh.big {i : Int} (h : i.natAbs < 10 ^ 30) : Sh 0 100 (eInt i) := by
  have hl : i.natAbs.log2 < 100 := by
    by_cases h0 : i.natAbs = 0
    · rw [h0]; decide
    · exact (Nat.log2_lt h0).mpr (Nat.lt_trans h (by decide))
  have ht := int_text_length_le10 (k := 30) (by decide) h
  refine ⟨by simp only [eInt, PyData.showable, decide_eq_true_eq]; omega, rfl, by simp [eInt, PyData.depth], ?_, ?_⟩
  · simp only [eInt, PyData.leavesShort, decide_eq_true_eq]
    show (Str.ofString (toString i)).length ≤ 40
    rw [PySem.ofString_length]; exact Nat.le_trans ht (by decide)
  · simp only [eInt, PyData.weight]
    split <;> omega
theorem Sh.bool {b : Bool} : Sh 0 0 (eBool b) := ⟨rfl, rfl, by simp [eBool, PyData.depth], rfl, by simp [eBool, PyData.weight]⟩
theorem Sh.non : Sh 0 0 .none := ⟨rfl, rfl, by simp [PyData.depth], rfl, by simp [PyData.weight]⟩
theorem Sh.all {dp wt : Nat} {e : α → PyData} : ∀ {xs : List α}, (∀ x ∈ xs, Sh dp wt (e x)) → PyData.showableAll (xs.map e) = true ∧ PyData.hasDictAll (xs.map e) = false ∧ PyData.depthAll (xs.map e) ≤ dp ∧ PyData.leavesShortAll 40 (xs.map e) = true ∧ PyData.weightAll (xs.map e) ≤ xs.length * (wt + 1)
  | [], _ => ⟨rfl, rfl, Nat.zero_le _, rfl, Nat.zero_le _⟩
  | x :: xs, h => by
    obtain ⟨h1, h2, h3, h4, h5⟩ := h x List.mem_cons_self
    obtain ⟨g1, g2, g3, g4, g5⟩ := Sh.all (xs := xs) fun y hy => h y (List.mem_cons_of_mem _ hy)
    have e2 : (xs.length + 1) * (wt + 1) = xs.length * (wt + 1) + (wt + 1) := Nat.succ_mul _ _
    refine ⟨by simp [PyData.showableAll, h1, g1], by simp [PyData.hasDictAll, h2, g2], by simp only [List.map_cons, PyData.depthAll]; omega, by simp [PyData.leavesShortAll, h4, g4], ?_⟩
    simp only [List.map_cons, PyData.weightAll, List.length_cons]
    omega
theorem Sh.lst {dp wt : Nat} {e : α → PyData} {xs : List α} (n : Nat) (hn : xs.length ≤ n) (h : ∀ x ∈ xs, Sh dp wt (e x)) : Sh (dp + 1) (n * (wt + 1)) (eL e xs) := by
  obtain ⟨g1, g2, g3, g4, g5⟩ := Sh.all h
  refine ⟨by simpa [eL, PyData.showable] using g1, by simpa [eL, PyData.hasDict] using g2, by simp only [eL, PyData.depth]; omega, by simpa [eL, PyData.leavesShort] using g4, ?_⟩
  simp only [eL, PyData.weight]
  exact Nat.le_trans g5 (Nat.mul_le_mul_right _ hn)
theorem Sh.tup {dp wt : Nat} {e : α → PyData} {xs : List α} (n : Nat) (hn : xs.length ≤ n) (h : ∀ x ∈ xs, Sh dp wt (e x)) : Sh (dp + 1) (n * (wt + 1)) (eT e xs) := by
  obtain ⟨g1, g2, g3, g4, g5⟩ := Sh.all h
  refine ⟨by simpa [eT, PyData.showable] using g1, by simpa [eT, PyData.hasDict] using g2, by simp only [eT, PyData.depth]; omega, by simpa [eT, PyData.leavesShort] using g4, ?_⟩
  simp only [eT, PyData.weight]
  exact Nat.le_trans g5 (Nat.mul_le_mul_right _ hn)
theorem Sh.opt {dp wt : Nat} {e : α → PyData} {o : Option α} (h : ∀ x, o = some x → Sh dp wt (e x)) : Sh dp wt (eO e o) := by
  cases o with
  | none => exact Sh.non.mono (Nat.zero_le _) (Nat.zero_le _)
  | some a => exact h a rfl
end
end Pz

namespace Pz
open PySem PySem.Spec PyProof.Rows L2

/-! ### enumerate(tuple) -/
set_option maxHeartbeats 1000000 in
theorem meets_enum1 {v : Value} {ob : Obj} {Hd : Heap → Prop} (Bg : Begins v ob Hd) :
    Meets (Builtin.«enumerate.__new__» ⟨[.type "enumerate", v], []⟩) (fun _ R sh => Hd sh.heap ∧
      R (.ok (.ret (.ref (sh.heap.push ob).objs.size))) { sh with heap := (sh.heap.push ob).push { cls := .type "enumerate", data := .fields #[.none, .bool false, .ref sh.heap.objs.size, rawInt 0, .none, .none] } }) :=
  .of_wp fun prog w A R sh want => by
    obtain ⟨hq, gq, dq, tq, oq⟩ := sh; obtain ⟨hd1, want⟩ := want
    have esub := sub_enumerate
    have iter1 : ∀ {A2 : Around} {E2 : Value → Shared → Prop} {Q2 : Value → Shared → Prop}, Q2 (.ref hq.objs.size) ⟨hq.push ob, gq, dq, tq, oq⟩ → wpAny (model prog w) A2 (pyIter v) Q2 E2 ⟨hq, gq, dq, tq, oq⟩ :=
      fun q2 => Bg.iter prog w _ _ ⟨hq, gq, dq, tq, oq⟩ _ hd1 q2
    wp_walk using iter1
    refine wpAny_stack_any fun stk => wpAny_pure ?_
    split
    · rename_i cq _ _ _ _ _
      cases (cq == Value.type "enumerate")
      · wp_walk using iter1
        exact ⟨_, rfl, want⟩
      · wp_walk using iter1
        exact ⟨_, rfl, want⟩
    · wp_walk using iter1
      exact ⟨_, rfl, want⟩
theorem call_enum1 {prog : Program} {w : World} {A : Around} {E : Value → Shared → Prop} {sh : Shared} {v : Value} {ob : Obj} {Hd : Heap → Prop} {Q : Value → Shared → Prop} (Bg : Begins v ob Hd) (hd1 : Hd sh.heap)
    (want : ∀ h2, IsEnum h2 (sh.heap.objs.size + 1) sh.heap.objs.size 0 .none → h2.get? sh.heap.objs.size = some ob → h2.objs.size = sh.heap.objs.size + 2 →
      (∀ b o2, sh.heap.get? b = some o2 → h2.get? b = some o2) → Q (.ref (sh.heap.objs.size + 1)) { sh with heap := h2 }) :
    wpAny (model prog w) A (call (.type "enumerate") [v]) Q E sh := by
  refine callType_new F.called_enumerate (by decide) (F.typeCall_enumerate_1 _) (F.newCall_enumerate_1 _) (fun u => F.args_object_init_2 u _) F.entry_enumerate_new
    (meets_enum1 Bg) ⟨hd1, ?_⟩
  have size1 : (sh.heap.push ob).objs.size = sh.heap.objs.size + 1 := Heap.size_push ..
  show _ ∧ _
  rw [size1]
  have is1 : IsEnum ((sh.heap.push ob).push { cls := .type "enumerate", data := .fields #[.none, .bool false, .ref sh.heap.objs.size, rawInt 0, .none, .none] }) (sh.heap.objs.size + 1) sh.heap.objs.size 0 .none := by
    have e1 := Heap.get?_push_size (sh.heap.push ob) (o := { cls := .type "enumerate", data := .fields #[.none, .bool false, .ref sh.heap.objs.size, rawInt 0, .none, .none] }) rfl
    rw [size1] at e1; exact e1
  exact ⟨⟨_, is1, rfl⟩, want _ is1 (Heap.get?_push_of_some _ (Heap.get?_push_size _ Bg.free)) (by rw [Heap.size_push, size1]) fun b o2 x => Heap.get?_push_of_some _ (Heap.get?_push_of_some _ x)⟩
/-- the tuple at a, each item in a new pair -/
def IteT (K : PySem.W.Frag) (a : Addr) : It :=
  ⟨fun i H => ∃ (ys : List V) (y : V), SqT K H a ys ∧ ys[i]? = some y, fun i H v H2 => ∃ T y, v = .ref T ∧ H T = none ∧ H2 = upd H T (.tup [.int (i : Nat), y]) ∧ ∀ ys, SqT K H a ys → ys[i]? = some y, fun i H => ∃ ys : List V, SqT K H a ys ∧ ys.length ≤ i⟩
theorem turn_enumT {P : Program} {w : World} {K : PySem.W.Frag} {elts : List Expr} {kk : Nat} {tpos : Pos} (a e it : Addr) :
    Turn P w K (.Tuple elts kk tpos) (IteT K a) [e, it] e (fun i h => (∃ old, IsEnum h e it ((i : Nat) : Int) old) ∧ h.IsTupleIter it a i ∧ e ≠ it) where
  mem := by simp
  obj := fun i hh stt b hb => by
    obtain ⟨⟨old, en⟩, ⟨o, ho, hc, hd⟩, _⟩ := stt
    rcases (show b = e ∨ b = it by simpa using hb) with z | z
    · rw [z]; exact ⟨_, en, fun v q => nomatch q⟩
    · rw [z]; exact ⟨o, ho, fun v q => by rw [hd] at q; cases q⟩
  keep := fun i h1 h2 stt k => by
    obtain ⟨⟨old, en⟩, ⟨o, ho, hc, hd⟩, hne⟩ := stt
    exact ⟨⟨old, k e (by simp) _ en⟩, ⟨o, k it (by simp) _ ho, hc, hd⟩, hne⟩
  item := by
    intro X hP hw hK hc i pins s σ H E I hf stt hg
    subst hP hw hK
    obtain ⟨⟨old, en⟩, hit, hne⟩ := stt
    obtain ⟨ys, y, hq, hy⟩ := hg
    obtain ⟨its, rv, tup, hz⟩ := I.tuple hq
    obtain ⟨u, hu, ru⟩ := rv.get hy
    have lte : e < s.heap.objs.size := Heap.lt_size en
    have lti : it < s.heap.objs.size := by obtain ⟨_, q, _⟩ := hit; exact Heap.lt_size q
    have tup' : s.heap.IsTuple a its.toArray := tup
    have nea : e ≠ a := fun z => by
      obtain ⟨o, ho, hc, _⟩ := tup'
      subst z
      have en2 : s.heap.get? e = some _ := en
      rw [ho] at en2; cases en2; simp at hc
    have nia : a ≠ it := fun z => by
      obtain ⟨o, ho, hc, _⟩ := tup'
      obtain ⟨o2, ho2, hc2, _⟩ := hit
      subst z
      rw [ho] at ho2; cases ho2; rw [hc] at hc2; simp at hc2
    have D := Draws.tuple (prog := X.prog) (w := X.w) (A := X.A.in1) (I.ok.hd hc) it a nia its.toArray
    have hlt : i < its.toArray.size := by have := (List.getElem?_eq_some_iff.mp hu).1; simpa using this
    refine wpAny_pyNext_enum_itemD D en ⟨hit, tup'⟩ hlt hne (by simp [hne, nea]) fun x h2 tk hx ho hst2 hT hsz hk => ?_
    obtain rfl : u = x := by
      have hx' : its.toArray[i]? = some x := hx
      rw [List.getElem?_toArray, hu] at hx'; exact Option.some.inj hx'
    refine ⟨_, rfl, wpAny_letOwnedTupleGo_enum (s := { s with heap := h2, toks := tk + 1 }) ho fun h3 en3 sb => ?_⟩
    have hT3 : h3.get? s.heap.objs.size = some { cls := .type "tuple", data := .seq #[.int i tk, u] } := (sb.2 _ (Nat.ne_of_gt lte)).trans hT
    have fresh : ObjOk X.prog X.w (upd H s.heap.objs.size (.tup [.int (i : Nat), y])) h3 s.heap.objs.size (.tup [.int (i : Nat), y]) :=
      ⟨by show 2 ≤ sizeLine; decide, [.int i tk, u], .cons ⟨_, rfl⟩ (.cons ru .nil), ⟨_, hT3, rfl, _, rfl⟩⟩
    have I3 : Inv X pins σ (upd H s.heap.objs.size (.tup [.int (i : Nat), y])) { s with heap := h3, toks := tk + 1 } :=
      I.turnedNew (ch := [e, it]) (fun b ob nb q => (sb.2 b (fun z => nb (by simp [z]))).trans (hk b ob (fun z => nb (by simp [z])) (fun z => nb (by simp [z])) q)) hf (Nat.le_refl _) fresh
    refine ⟨.ref s.heap.objs.size, _, I3, rfl, ⟨_, y, rfl, I.hok.fresh (Nat.le_refl _), rfl, fun zs hzs => by rw [I.tuple_inj hzs hq]; exact hy⟩, ⟨⟨u, ?_⟩, ?_, hne⟩, fun b hb => ?_⟩
    · rw [show ((i + 1 : Nat) : Int) = (i : Int) + 1 by omega]; exact en3
    · obtain ⟨⟨o, h1, h2', h3'⟩, _⟩ := hst2
      exact ⟨o, (sb.2 it (Ne.symm hne)).trans h1, h2', h3'⟩
    · have ltb : b < s.heap.objs.size := by
        rcases (show b = e ∨ b = it by simpa using hb) with z | z
        · rw [z]; exact lte
        · rw [z]; exact lti
      rw [upd_ne (Nat.ne_of_lt ltb)]
      exact (hf b hb).1
  done := by
    intro X hP hw hK hc i pins s σ H E I hf stt hg
    subst hP hw hK
    obtain ⟨⟨old, en⟩, hit, hne⟩ := stt
    obtain ⟨ys, hq, hy⟩ := hg
    obtain ⟨its, rv, tup, hz⟩ := I.tuple hq
    have tup' : s.heap.IsTuple a its.toArray := tup
    obtain ⟨f0, f1, f2, f3, f4, f5⟩ := hf it (by simp)
    have hlen := rv.length
    have D : Draws X.prog X.w X.A.in1 it [it, a] i (fun _ _ => True) (fun j h => j = i ∧ h.IsTupleIter it a i ∧ h.IsTuple a its.toArray) :=
      { live := fun _ _ q => let ⟨o, ho, _⟩ := q.2.1; ⟨o, ho⟩
        frame := fun _ _ _ q hk => ⟨q.1, q.2.1.at fun o e => hk it (by simp) o e, q.2.2.at fun o e => hk a (by simp) o e⟩
        item := fun j s Q E hj q _ => absurd q.1 (Nat.ne_of_lt hj)
        done := fun s Q E q hE => wpAny_nextOf_tuple_end (I.ok.hd hc) q.2.1 q.2.2 (by simp; omega) hE }
    exact wpAny_pyNext_enum_endD D en ⟨rfl, hit, tup'⟩ fun h2 eb => ⟨rfl, I.turned (t' := s.toks) (fun b o nb q => eb b o nb q) f0 f1 f3 f4 f5⟩
  self := fun A i s Q E stt want => let ⟨⟨_, en⟩, _⟩ := stt; wpAny_pyIter_enum en want
def iEnumT (K : PySem.W.Frag) (ta : TA) : TI := fun σ H R => ta σ H fun vs H1 => ∃ a ys, vs = [.ref a] ∧ SqT K H1 a ys ∧ R (IteT K a) H1
theorem pi_enumT {X : Cx} {e : Expr} {ta : TA} {p pos tpos : Pos} {elts : List Expr} {kk : Nat} (hg : Gl X "enumerate") (hm : X.mg "enumerate" = none) (ha : PA X [e] ta) (hs : starEach [e] X.env = [(false, eval e X.env)] := by rfl) :
    PI X (.Tuple elts kk tpos) (.Call (.Name "enumerate" p) [e] [] pos) (iEnumT X.K ta) := by
  refine ⟨fun pins s σ H R I want => ?_⟩
  refine Call_ (ld_blt I hg hm boot_enumerate (PyProof.Rows.callWith_type1 (thn (ha.run pos pins s σ H _ I want) fun us s1 ⟨vs, H1, I1, r1, q1⟩ => ?_) hs rfl))
  obtain ⟨a, ys, ex, hq, q⟩ := q1
  subst ex
  cases r1 with
  | cons r rr =>
    cases rr
    cases r
    obtain ⟨its, rv, tup, hz⟩ := I1.tuple hq
    refine call_enum1 (begins_tuple a its.toArray) (show s1.heap.IsTuple a its.toArray from tup) fun h2 en hit hsz hk => wpAny_pyIter_enum en ?_
    have I2 : Inv X pins σ H1 { s1 with heap := h2 } := I1.kept (t' := s1.toks) hk
    refine ⟨s1.heap.objs.size + 1, [s1.heap.objs.size + 1, s1.heap.objs.size], _, _, H1, rfl, I2, turn_enumT a (s1.heap.objs.size + 1) s1.heap.objs.size, ⟨⟨.none, en⟩, ⟨_, hit, rfl, rfl⟩, Nat.succ_ne_self _⟩, fun b hb => ?_, q⟩
    have le1 : s1.heap.objs.size ≤ b := by
      rcases (show b = s1.heap.objs.size + 1 ∨ b = s1.heap.objs.size by simpa using hb) with z | z
      · rw [z]; exact Nat.le_add_right _ _
      · rw [z]; exact Nat.le_refl _
    exact I1.fpOk le1 (I1.hok.fresh le1)
end Pz

namespace Pz
open PySem PySem.Spec PyProof.Rows L2

section
variable {α β γ δ κ ρ ι : Type} {ea : α → PyData} {eb : β → PyData} {ec : γ → PyData} {er : ρ → PyData} {ei : ι → PyData} {X : Cx} {R : Res} {Γ Γ' : List Slot} {e a b c : Expr} {st : Stmt} {rest A B body : List Stmt} {pos : Pos} {out : κ → OutD}
/-! ### enumerate, zip -/
def enumF : Nat → List α → List (Int × α × Unit)
  | _, [] => []
  | k, x :: xs => ((k : Int), x, ()) :: enumF (k + 1) xs
def enumL (xs : List α) : List (Int × α × Unit) := enumF 0 xs
theorem enumF_get : ∀ (k : Nat) (xs : List α) (i : Nat), (enumF k xs)[i]? = xs[i]?.map fun x => (((k + i : Nat) : Int), x, ())
  | _, [], _ => by simp [enumF]
  | k, x :: xs, 0 => by simp [enumF]
  | k, x :: xs, i + 1 => by
    have := enumF_get (k + 1) xs i
    simp only [enumF, List.getElem?_cons_succ, this]
    rw [show k + 1 + i = k + (i + 1) by omega]
theorem enumF_length : ∀ (k : Nat) (xs : List α), (enumF k xs).length = xs.length
  | _, [] => rfl
  | k, x :: xs => by simp [enumF, enumF_length (k + 1) xs]
@[simp] theorem enumL_length (xs : List α) : (enumL xs).length = xs.length := enumF_length 0 xs
theorem enumL_get (xs : List α) (i : Nat) : (enumL xs)[i]? = xs[i]?.map fun x => ((i : Int), x, ()) := by
  unfold enumL; rw [enumF_get]; simp
def zipL (xs : List α) (ys : List β) : List (α × β × Unit) := List.zipWith (fun x y => (x, y, ())) xs ys
theorem pair_rp {A' : Av} {H' : Hp} {T : Addr} {v w : V} {d1 d2 : PyData} (n : ¬ A' T) (h1 : Rp A' H' v d1) (h2 : Rp A' H' w d2) (hT : H' T = some (.tup [v, w])) : Rp A' H' (.ref T) (.tuple [d1, d2]) := .tup n hT (.cons h1 (.cons h2 .nil))
theorem itok_enumL {K : PySem.W.Frag} {A : Av} {H1 : Hp} {p : Addr} {vs : List V} {xs : List α} (na : ¬ A p) (ha : H1 p = some (.lst vs)) (r : RpAll A H1 vs (xs.map ea)) : ItOk (Ite K p) A H1 ((enumL xs).map (eP (eC eInt (eC ea eU)))) := fun H i k => by
  have hH := k _ _ na ha
  have hl := r.length
  rw [List.length_map] at hl
  refine ⟨fun h => ⟨vs, SqL.of hH, by simpa [hl] using h⟩, fun d hd => ?_⟩
  rw [List.getElem?_map, enumL_get] at hd
  cases hx : xs[i]? with
  | none => rw [hx] at hd; cases hd
  | some x =>
    rw [hx] at hd
    obtain ⟨v, hv, rv⟩ := r.get (show (xs.map ea)[i]? = some (ea x) by rw [List.getElem?_map, hx]; rfl)
    refine ⟨⟨vs, v, SqL.of hH, hv⟩, fun w H' y => ?_⟩
    obtain ⟨T, y', rfl, nT, rfl, hy⟩ := y
    have e1 := hy vs (SqL.of hH)
    rw [hv] at e1
    obtain rfl : v = y' := Option.some.inj e1
    refine ⟨same_new nT, fun A' h1 h2 => ?_⟩
    have hd' : PyData.tuple [eInt (i : Int), ea x] = d := Option.some.inj hd
    subst hd'
    exact pair_rp (fun z => h2 T z nT) (.int _) ((Rp.move (fun b o nb e => ⟨h1 b o nb e, k b o nb e⟩) _ _ rv).keep (Keep.of_same (same_new nT))) upd_same
theorem itok_enumT {K : PySem.W.Frag} {A : Av} {H1 : Hp} {p : Addr} {vs : List V} {xs : List α} (na : ¬ A p) (ha : H1 p = some (.tup vs)) (r : RpAll A H1 vs (xs.map ea)) : ItOk (IteT K p) A H1 ((enumL xs).map (eP (eC eInt (eC ea eU)))) := fun H i k => by
  have hH := k _ _ na ha
  have hl := r.length
  rw [List.length_map] at hl
  refine ⟨fun h => ⟨vs, SqT.of hH, by simpa [hl] using h⟩, fun d hd => ?_⟩
  rw [List.getElem?_map, enumL_get] at hd
  cases hx : xs[i]? with
  | none => rw [hx] at hd; cases hd
  | some x =>
    rw [hx] at hd
    obtain ⟨v, hv, rv⟩ := r.get (show (xs.map ea)[i]? = some (ea x) by rw [List.getElem?_map, hx]; rfl)
    refine ⟨⟨vs, v, SqT.of hH, hv⟩, fun w H' y => ?_⟩
    obtain ⟨T, y', rfl, nT, rfl, hy⟩ := y
    have e1 := hy vs (SqT.of hH)
    rw [hv] at e1
    obtain rfl : v = y' := Option.some.inj e1
    refine ⟨same_new nT, fun A' h1 h2 => ?_⟩
    have hd' : PyData.tuple [eInt (i : Int), ea x] = d := Option.some.inj hd
    subst hd'
    exact pair_rp (fun z => h2 T z nT) (.int _) ((Rp.move (fun b o nb e => ⟨h1 b o nb e, k b o nb e⟩) _ _ rv).keep (Keep.of_same (same_new nT))) upd_same
theorem i_enumL {elts : List Expr} {k : Nat} {tpos p : Pos} {m : M (List α)} (hm : X.mg "enumerate" = none) (h : EJ X R Γ e (eL ea) m) (hg : Gl X "enumerate" := by rfl) (hs : starEach [e] X.env = [(false, eval e X.env)] := by rfl) :
    IJ X R Γ (.Call (.Name "enumerate" p) [e] [] pos) (.Tuple elts k tpos) (eP (eC eInt (eC ea eU))) (bindM m fun x => pureM (enumL x)) := by
  refine PI.weak (PI.fits (pi_enum hg hm (pa_cons h pa_nil hs) hs)) fun σ H Rr ⟨O, H0, ow, st, z, st', rel, ok, e, q⟩ => ?_
  obtain ⟨x, s1, e1, e2⟩ := bind_some e
  obtain ⟨rfl, rfl⟩ := pure_some e2
  refine ⟨O, H0, ow, st, x, s1, rel, ok, e1, fun v H1 k1 o1 rp => ?_⟩
  cases rp with
  | @lst p0 vs _ na ha ra =>
    exact ⟨p0, vs, rfl, SqL.of ha, fun fit => q _ H1 k1 o1 (by have := fit p0 vs (.inl ha); rw [ra.length, List.length_map] at this; rw [enumL_length]; exact this) (itok_enumL na ha ra)⟩
theorem i_enumT {elts : List Expr} {k : Nat} {tpos p : Pos} {m : M (List α)} (hm : X.mg "enumerate" = none) (h : EJ X R Γ e (eT ea) m) (hg : Gl X "enumerate" := by rfl) (hs : starEach [e] X.env = [(false, eval e X.env)] := by rfl) :
    IJ X R Γ (.Call (.Name "enumerate" p) [e] [] pos) (.Tuple elts k tpos) (eP (eC eInt (eC ea eU))) (bindM m fun x => pureM (enumL x)) := by
  refine PI.weak (PI.fits (pi_enumT hg hm (pa_cons h pa_nil hs) hs)) fun σ H Rr ⟨O, H0, ow, st, z, st', rel, ok, e, q⟩ => ?_
  obtain ⟨x, s1, e1, e2⟩ := bind_some e
  obtain ⟨rfl, rfl⟩ := pure_some e2
  refine ⟨O, H0, ow, st, x, s1, rel, ok, e1, fun v H1 k1 o1 rp => ?_⟩
  cases rp with
  | @tup p0 vs _ na ha ra =>
    exact ⟨p0, vs, rfl, SqT.of ha, fun fit => q _ H1 k1 o1 (by have := fit p0 vs (.inr ha); rw [ra.length, List.length_map] at this; rw [enumL_length]; exact this) (itok_enumT na ha ra)⟩

/-! ### data that are seen to be of a type -/
theorem e_narrow {m : M α} (f : α → Option γ) (h : EJ X R Γ e ea m) (hf : ∀ x y, f x = some y → ea x = ec y) : EJ X R Γ e ec (bindM m fun x => optM (f x)) := by
  refine PE.weak h fun σ H Q ⟨O, H0, ow, st, z, st', rel, ok, e, q⟩ => ?_
  obtain ⟨x, s1, e1, e2⟩ := bind_some e
  obtain ⟨e3, rfl⟩ := optM_inv e2
  exact ⟨O, H0, ow, st, x, s1, rel, ok, e1, fun v H1 k1 o1 rp => q v H1 k1 o1 (by rw [← hf _ _ e3]; exact rp)⟩
def asInt : PyData → Option Int
  | .int i => some i
  | _ => none
def asBool : PyData → Option Bool
  | .bool b => some b
  | _ => none
def asStr : PyData → Option Str
  | .str x => some x
  | _ => none
def asTup : PyData → Option (List PyData)
  | .tuple ds => some ds
  | _ => none
def asLst : PyData → Option (List PyData)
  | .list ds => some ds
  | _ => none
theorem map_eD (ds : List PyData) : ds.map eD = ds := List.map_id ds
theorem e_dInt {m : M PyData} (h : EJ X R Γ e eD m) : EJ X R Γ e eInt (bindM m fun x => optM (asInt x)) := e_narrow asInt h fun x y q => by cases x <;> cases q <;> rfl
theorem e_dBool {m : M PyData} (h : EJ X R Γ e eD m) : EJ X R Γ e eBool (bindM m fun x => optM (asBool x)) := e_narrow asBool h fun x y q => by cases x <;> cases q <;> rfl
theorem e_dStr {m : M PyData} (h : EJ X R Γ e eD m) : EJ X R Γ e eStr (bindM m fun x => optM (asStr x)) := e_narrow asStr h fun x y q => by cases x <;> cases q <;> rfl
theorem e_dTup {m : M PyData} (h : EJ X R Γ e eD m) : EJ X R Γ e (eT eD) (bindM m fun x => optM (asTup x)) := e_narrow asTup h fun x y q => by cases x <;> cases q; simp [eT, eD, map_eD]
theorem e_dLst {m : M PyData} (h : EJ X R Γ e eD m) : EJ X R Γ e (eL eD) (bindM m fun x => optM (asLst x)) := e_narrow asLst h fun x y q => by cases x <;> cases q; simp [eL, eD, map_eD]
/-- t[j] of mixed data, all of one place's type -/
theorem e_dTupAs {m : M (List PyData)} (f : PyData → Option γ) (hf : ∀ x y, f x = some y → x = ec y) (h : EJ X R Γ e (eT eD) m) : EJ X R Γ e (eT ec) (bindM m fun xs => optM (xs.mapM f)) := e_narrow (fun xs => xs.mapM f) h fun xs ys q => by
  have : ∀ (xs : List PyData) (ys : List γ), xs.mapM f = some ys → xs.map eD = ys.map ec := by
    intro xs
    induction xs with
    | nil => intro ys q; simp at q; subst q; rfl
    | cons x xs ih =>
      intro ys q
      rw [List.mapM_cons] at q
      obtain ⟨y, e1, q⟩ := Option.bind_eq_some_iff.mp q
      obtain ⟨zs, e2, q⟩ := Option.bind_eq_some_iff.mp q
      cases q
      rw [List.map_cons, List.map_cons, ih _ e2, ← hf _ _ e1]
      rfl
  show PyData.tuple _ = PyData.tuple _
  rw [this xs ys q]

/-! ### isinstance -/
def tyN : PyData → String
  | .none => "NoneType"
  | .bool _ => "bool"
  | .int _ => "int"
  | .str _ => "str"
  | .list _ => "list"
  | .tuple _ => "tuple"
  | .dict _ => "dict"
def isTy (n : String) (d : PyData) : Bool := tyN d == n || (n == "int" && tyN d == "bool")
theorem rp_ty {K : PySem.W.Frag} {A : Av} {H : Hp} {v : V} {d : PyData} (r : Rp A H v d) : TyX K H v (.type (tyN d)) := by
  cases r with
  | non => exact .base .non
  | bl b => exact .base (.bl b)
  | int i => exact .base (.int i)
  | str x => exact .base (.str x)
  | lst _ h _ => exact .base (.lst h)
  | tup _ h _ => exact .base (.tup h)
  | dic _ h => exact .base (.dK h)
theorem kit_int {K : PySem.W.Frag} (d : PyData) : PySem.W.kitOne K (.type (tyN d)) (.type "int") = some (isTy "int" d) := by cases d <;> rfl
theorem kit_bool {K : PySem.W.Frag} (d : PyData) : PySem.W.kitOne K (.type (tyN d)) (.type "bool") = some (isTy "bool" d) := by cases d <;> rfl
theorem kit_str {K : PySem.W.Frag} (d : PyData) : PySem.W.kitOne K (.type (tyN d)) (.type "str") = some (isTy "str" d) := by cases d <;> rfl
theorem kit_tuple {K : PySem.W.Frag} (d : PyData) : PySem.W.kitOne K (.type (tyN d)) (.type "tuple") = some (isTy "tuple" d) := by cases d <;> rfl
theorem kit_list {K : PySem.W.Frag} (d : PyData) : PySem.W.kitOne K (.type (tyN d)) (.type "list") = some (isTy "list" d) := by cases d <;> rfl
theorem kit_dict {K : PySem.W.Frag} (d : PyData) : PySem.W.kitOne K (.type (tyN d)) (.type "dict") = some (isTy "dict" d) := by cases d <;> rfl
theorem e_isi {x : Str} {p1 p2 : Pos} {n : String} {m : M α} (hk : ∀ (K : PySem.W.Frag) d, PySem.W.kitOne K (.type (tyN d)) (.type n) = some (isTy n d)) (hm : X.mg "isinstance" = none) (hmT : X.mg x = none) (hvT : bootBuiltins x = some (.type n)) (ha : EJ X R Γ a ea m)
    (hg : Gl X "isinstance" := by rfl) (hgT : Gl X x := by rfl) (hn : x ≠ "__name__" := by decide) (hdb : (x == ("__debug__" : Str)) = false := by decide)
    (hs1 : starEach [a, .Name x p2] X.env = (false, eval a X.env) :: starEach [.Name x p2] X.env := by rfl) (hs2 : starEach [.Name x p2] X.env = (false, eval (.Name x p2) X.env) :: starEach [] X.env := by rfl) :
    EJ X R Γ (.Call (.Name "isinstance" p1) [a, .Name x p2] [] pos) eBool (bindM m fun y => pureM (isTy n (ea y))) := by
  refine PE.weak (pe_callB (x := "isinstance") call_isi hg hm bt_isinstance (pa_cons ha (pa_cons (pe_bltn (v := .ty n) hgT hmT hvT rfl hn hdb) pa_nil hs2) hs1) (by decide) (by decide) hs1 (by rw [hs2]; rfl)) fun σ H Q ⟨O, H0, ow, st, z, st', rel, ok, e, q⟩ => ?_
  obtain ⟨y, s1, e1, e2⟩ := bind_some e
  obtain ⟨rfl, rfl⟩ := pure_some e2
  refine ⟨O, H0, ow, st, y, s1, rel, ok, e1, fun v H1 k1 o1 rp => ?_⟩
  exact ⟨v, .ty n, _, _, _, rfl, .ty n, rp_ty rp, hk _ _, q _ H1 k1 o1 (.bl _)⟩

/-! ### in -/
def rInP : R2 := fun x y H Q => ∃ A d ds, Rp A H x d ∧ (Rp A H y (.list ds) ∨ Rp A H y (.tuple ds)) ∧ PyData.plainAll ds = true ∧ d.plain = true ∧ d.depth ≤ 60 ∧ Q (.bl (ds.any fun z => PyData.eqv z d)) H
def rNinP : R2 := fun x y H Q => ∃ A d ds, Rp A H x d ∧ (Rp A H y (.list ds) ∨ Rp A H y (.tuple ds)) ∧ PyData.plainAll ds = true ∧ d.plain = true ∧ d.depth ≤ 60 ∧ Q (.bl (!ds.any fun z => PyData.eqv z d)) H
theorem op_inP (hu : X.A.units + 64 < cLine) : OpR X (compareOp .In) rInP := fun pins s σ H x y v u Q I rx ry h => by
  obtain ⟨A, d, ds, hd, hc, p1, p2, dp, q⟩ := h
  obtain ⟨as, r1, _⟩ := Rp.reads I d x v hd rx
  rcases hc with hc | hc
  · obtain ⟨bs, r2, _⟩ := Rp.reads I _ y u hc ry
    exact SeqAt.in_list_data r2 r1 p1 p2 (by omega) ⟨.bl _, H, I, rfl, q⟩
  · obtain ⟨bs, r2, _⟩ := Rp.reads I _ y u hc ry
    exact SeqAt.in_tuple_data r2 r1 p1 p2 (by omega) ⟨.bl _, H, I, rfl, q⟩
theorem op_ninP (hu : X.A.units + 64 < cLine) : OpR X (compareOp .NotIn) rNinP := fun pins s σ H x y v u Q I rx ry h => by
  obtain ⟨A, d, ds, hd, hc, p1, p2, dp, q⟩ := h
  obtain ⟨as, r1, _⟩ := Rp.reads I d x v hd rx
  rcases hc with hc | hc
  · obtain ⟨bs, r2, _⟩ := Rp.reads I _ y u hc ry
    exact SeqAt.notIn_list_data r2 r1 p1 p2 (by omega) ⟨.bl _, H, I, rfl, q⟩
  · obtain ⟨bs, r2, _⟩ := Rp.reads I _ y u hc ry
    exact SeqAt.notIn_tuple_data r2 r1 p1 p2 (by omega) ⟨.bl _, H, I, rfl, q⟩
theorem any_mem [DecidableEq α] {n : Nat} (h : Dc n ea) (x : α) (xs : List α) : ((xs.map ea).any fun z => PyData.eqv z (ea x)) = decide (x ∈ xs) := by
  rw [List.any_map, Bool.eq_iff_iff, List.any_eq_true, decide_eq_true_eq]
  constructor
  · rintro ⟨y, hy, e⟩
    have := (h.eqv y x).symm.trans e
    rw [decide_eq_true_eq] at this
    rw [← this]; exact hy
  · exact fun hx => ⟨x, hx, by have := h.eqv x x; rw [decide_eq_true rfl] at this; exact this⟩
theorem v_inL {n : Nat} [DecidableEq α] (h : Dc n ea) (hn : n ≤ 60 := by decide) : VOp rInP ea (eL ea) eBool (fun x xs => some (decide (x ∈ xs))) := fun A H x xs vx vy Q z ad r1 r2 e q => by
  cases e
  refine ⟨A, _, _, r1, .inl r2, h.plainAll _, h.plain _, Nat.le_trans (h.depth _) hn, ?_⟩
  rw [any_mem h]
  exact q _ H (Same.refl H) (.bl _)
theorem v_inT {n : Nat} [DecidableEq α] (h : Dc n ea) (hn : n ≤ 60 := by decide) : VOp rInP ea (eT ea) eBool (fun x xs => some (decide (x ∈ xs))) := fun A H x xs vx vy Q z ad r1 r2 e q => by
  cases e
  refine ⟨A, _, _, r1, .inr r2, h.plainAll _, h.plain _, Nat.le_trans (h.depth _) hn, ?_⟩
  rw [any_mem h]
  exact q _ H (Same.refl H) (.bl _)
theorem v_ninL {n : Nat} [DecidableEq α] (h : Dc n ea) (hn : n ≤ 60 := by decide) : VOp rNinP ea (eL ea) eBool (fun x xs => some (!decide (x ∈ xs))) := fun A H x xs vx vy Q z ad r1 r2 e q => by
  cases e
  refine ⟨A, _, _, r1, .inl r2, h.plainAll _, h.plain _, Nat.le_trans (h.depth _) hn, ?_⟩
  rw [any_mem h]
  exact q _ H (Same.refl H) (.bl _)
theorem v_ninT {n : Nat} [DecidableEq α] (h : Dc n ea) (hn : n ≤ 60 := by decide) : VOp rNinP ea (eT ea) eBool (fun x xs => some (!decide (x ∈ xs))) := fun A H x xs vx vy Q z ad r1 r2 e q => by
  cases e
  refine ⟨A, _, _, r1, .inr r2, h.plainAll _, h.plain _, Nat.le_trans (h.depth _) hn, ?_⟩
  rw [any_mem h]
  exact q _ H (Same.refl H) (.bl _)
def inD (d c : PyData) : Option Bool := match c with
  | .list ds | .tuple ds => if PyData.plainAll ds = true ∧ d.plain = true ∧ d.depth ≤ 60 then some (ds.any fun z => PyData.eqv z d) else none
  | _ => none
theorem inD_some {d c : PyData} {b : Bool} (h : inD d c = some b) : ∃ ds, (c = .list ds ∨ c = .tuple ds) ∧ PyData.plainAll ds = true ∧ d.plain = true ∧ d.depth ≤ 60 ∧ (ds.any fun z => PyData.eqv z d) = b := by
  cases c with
  | list ds => obtain ⟨⟨h1, h2, h3⟩, h4⟩ := oif (show (if PyData.plainAll ds = true ∧ d.plain = true ∧ d.depth ≤ 60 then some (ds.any fun z => PyData.eqv z d) else none) = some b from h); exact ⟨ds, .inl rfl, h1, h2, h3, h4⟩
  | tuple ds => obtain ⟨⟨h1, h2, h3⟩, h4⟩ := oif (show (if PyData.plainAll ds = true ∧ d.plain = true ∧ d.depth ≤ 60 then some (ds.any fun z => PyData.eqv z d) else none) = some b from h); exact ⟨ds, .inr rfl, h1, h2, h3, h4⟩
  | _ => cases h
theorem v_inD : VOp rInP ea eb eBool (fun x xs => inD (ea x) (eb xs)) := fun A H x xs vx vy Q z ad r1 r2 e q => by
  obtain ⟨ds, hc, h1, h2, h3, rfl⟩ := inD_some e
  refine ⟨A, _, ds, r1, ?_, h1, h2, h3, q _ H (Same.refl H) (.bl _)⟩
  rcases hc with hc | hc
  · rw [hc] at r2; exact .inl r2
  · rw [hc] at r2; exact .inr r2
theorem v_ninD : VOp rNinP ea eb eBool (fun x xs => (inD (ea x) (eb xs)).map (!·)) := fun A H x xs vx vy Q z ad r1 r2 e q => by
  obtain ⟨b, e1, rfl⟩ := Option.map_eq_some_iff.mp e
  obtain ⟨ds, hc, h1, h2, h3, rfl⟩ := inD_some e1
  refine ⟨A, _, ds, r1, ?_, h1, h2, h3, q _ H (Same.refl H) (.bl _)⟩
  rcases hc with hc | hc
  · rw [hc] at r2; exact .inl r2
  · rw [hc] at r2; exact .inr r2
theorem e_inL {n k : Nat} [DecidableEq α] {ma : M α} {mb : M (List α)} (hr : Room k X.A) (h : Dc n ea) (ha : EJ X R Γ a ea ma) (hb : EJ X R Γ b (eL ea) mb) (hn : n ≤ 60 := by decide) (hmk : behindInMarks .In b = false := by rfl) : EJ X R Γ (.Compare a [.In] [b] pos) eBool (bindM ma fun x => bindM mb fun y => pureM (decide (x ∈ y))) := e_cmp (op_inP hr.units) (v_inL h hn) ha hb hmk
theorem e_inT {n k : Nat} [DecidableEq α] {ma : M α} {mb : M (List α)} (hr : Room k X.A) (h : Dc n ea) (ha : EJ X R Γ a ea ma) (hb : EJ X R Γ b (eT ea) mb) (hn : n ≤ 60 := by decide) (hmk : behindInMarks .In b = false := by rfl) : EJ X R Γ (.Compare a [.In] [b] pos) eBool (bindM ma fun x => bindM mb fun y => pureM (decide (x ∈ y))) := e_cmp (op_inP hr.units) (v_inT h hn) ha hb hmk
theorem e_ninL {n k : Nat} [DecidableEq α] {ma : M α} {mb : M (List α)} (hr : Room k X.A) (h : Dc n ea) (ha : EJ X R Γ a ea ma) (hb : EJ X R Γ b (eL ea) mb) (hn : n ≤ 60 := by decide) (hmk : behindInMarks .NotIn b = false := by rfl) : EJ X R Γ (.Compare a [.NotIn] [b] pos) eBool (bindM ma fun x => bindM mb fun y => pureM (!decide (x ∈ y))) := e_cmp (op_ninP hr.units) (v_ninL h hn) ha hb hmk
theorem e_ninT {n k : Nat} [DecidableEq α] {ma : M α} {mb : M (List α)} (hr : Room k X.A) (h : Dc n ea) (ha : EJ X R Γ a ea ma) (hb : EJ X R Γ b (eT ea) mb) (hn : n ≤ 60 := by decide) (hmk : behindInMarks .NotIn b = false := by rfl) : EJ X R Γ (.Compare a [.NotIn] [b] pos) eBool (bindM ma fun x => bindM mb fun y => pureM (!decide (x ∈ y))) := e_cmp (op_ninP hr.units) (v_ninT h hn) ha hb hmk
theorem t_inL {n k : Nat} [DecidableEq α] {ma : M α} {mb : M (List α)} (hr : Room k X.A) (h : Dc n ea) (ha : EJ X R Γ a ea ma) (hb : EJ X R Γ b (eL ea) mb) (hn : n ≤ 60 := by decide) (hmk : behindInMarks .In b = false := by rfl) : TJ X R Γ (.Compare a [.In] [b] pos) (bindM ma fun x => bindM mb fun y => pureM (decide (x ∈ y))) := t_cmp (op_inP hr.units) (v_inL h hn) ha hb hmk
theorem t_inT {n k : Nat} [DecidableEq α] {ma : M α} {mb : M (List α)} (hr : Room k X.A) (h : Dc n ea) (ha : EJ X R Γ a ea ma) (hb : EJ X R Γ b (eT ea) mb) (hn : n ≤ 60 := by decide) (hmk : behindInMarks .In b = false := by rfl) : TJ X R Γ (.Compare a [.In] [b] pos) (bindM ma fun x => bindM mb fun y => pureM (decide (x ∈ y))) := t_cmp (op_inP hr.units) (v_inT h hn) ha hb hmk
theorem t_ninL {n k : Nat} [DecidableEq α] {ma : M α} {mb : M (List α)} (hr : Room k X.A) (h : Dc n ea) (ha : EJ X R Γ a ea ma) (hb : EJ X R Γ b (eL ea) mb) (hn : n ≤ 60 := by decide) (hmk : behindInMarks .NotIn b = false := by rfl) : TJ X R Γ (.Compare a [.NotIn] [b] pos) (bindM ma fun x => bindM mb fun y => pureM (!decide (x ∈ y))) := t_cmp (op_ninP hr.units) (v_ninL h hn) ha hb hmk
theorem t_ninT {n k : Nat} [DecidableEq α] {ma : M α} {mb : M (List α)} (hr : Room k X.A) (h : Dc n ea) (ha : EJ X R Γ a ea ma) (hb : EJ X R Γ b (eT ea) mb) (hn : n ≤ 60 := by decide) (hmk : behindInMarks .NotIn b = false := by rfl) : TJ X R Γ (.Compare a [.NotIn] [b] pos) (bindM ma fun x => bindM mb fun y => pureM (!decide (x ∈ y))) := t_cmp (op_ninP hr.units) (v_ninT h hn) ha hb hmk
theorem e_inD {k : Nat} {ma : M α} {mb : M β} (hr : Room k X.A) (ha : EJ X R Γ a ea ma) (hb : EJ X R Γ b eb mb) (hmk : behindInMarks .In b = false := by rfl) : EJ X R Γ (.Compare a [.In] [b] pos) eBool (bindM ma fun x => bindM mb fun y => optM (inD (ea x) (eb y))) := e_cmp (op_inP hr.units) v_inD ha hb hmk
theorem e_ninD {k : Nat} {ma : M α} {mb : M β} (hr : Room k X.A) (ha : EJ X R Γ a ea ma) (hb : EJ X R Γ b eb mb) (hmk : behindInMarks .NotIn b = false := by rfl) : EJ X R Γ (.Compare a [.NotIn] [b] pos) eBool (bindM ma fun x => bindM mb fun y => optM ((inD (ea x) (eb y)).map (!·))) := e_cmp (op_ninP hr.units) v_ninD ha hb hmk
theorem t_inD {k : Nat} {ma : M α} {mb : M β} (hr : Room k X.A) (ha : EJ X R Γ a ea ma) (hb : EJ X R Γ b eb mb) (hmk : behindInMarks .In b = false := by rfl) : TJ X R Γ (.Compare a [.In] [b] pos) (bindM ma fun x => bindM mb fun y => optM (inD (ea x) (eb y))) := t_cmp (op_inP hr.units) v_inD ha hb hmk
theorem t_ninD {k : Nat} {ma : M α} {mb : M β} (hr : Room k X.A) (ha : EJ X R Γ a ea ma) (hb : EJ X R Γ b eb mb) (hmk : behindInMarks .NotIn b = false := by rfl) : TJ X R Γ (.Compare a [.NotIn] [b] pos) (bindM ma fun x => bindM mb fun y => optM ((inD (ea x) (eb y)).map (!·))) := t_cmp (op_ninP hr.units) v_ninD ha hb hmk

/-! ### is None, of data -/
def isNon : PyData → Bool
  | .none => true
  | _ => false
theorem v_isD : VOp (fun x y H Q => y = .non ∧ Q (.bl (decide (x = .non))) H) eD eNon eBool (fun x _ => some (isNon x)) := fun A H x y vx vy Q z ad r1 r2 e q => by
  cases e
  cases r2
  refine ⟨rfl, ?_⟩
  have : decide (vx = .non) = isNon x := by
    have := rp_non r1
    cases x <;> simp [this, isNon, eD]
  rw [this]
  exact q _ H (Same.refl H) (.bl _)
theorem v_notD : VOp (fun x y H Q => y = .non ∧ Q (.bl (!decide (x = .non))) H) eD eNon eBool (fun x _ => some (!isNon x)) := fun A H x y vx vy Q z ad r1 r2 e q => by
  cases e
  cases r2
  refine ⟨rfl, ?_⟩
  have : decide (vx = .non) = isNon x := by
    have := rp_non r1
    cases x <;> simp [this, isNon, eD]
  rw [this]
  exact q _ H (Same.refl H) (.bl _)
theorem e_isNd {m : M PyData} {j p} (ha : EJ X R Γ a eD m) : EJ X R Γ (.Compare a [.Is] [.Constant .none j p] pos) eBool (bindM m fun x => pureM (isNon x)) := e_cmp op_isN v_isD ha e_non
theorem e_notNd {m : M PyData} {j p} (ha : EJ X R Γ a eD m) : EJ X R Γ (.Compare a [.IsNot] [.Constant .none j p] pos) eBool (bindM m fun x => pureM (!isNon x)) := e_cmp op_notN v_notD ha e_non
theorem t_isNd {m : M PyData} {j p} (ha : EJ X R Γ a eD m) : TJ X R Γ (.Compare a [.Is] [.Constant .none j p] pos) (bindM m fun x => pureM (isNon x)) := t_cmp op_isN v_isD ha e_non
theorem t_notNd {m : M PyData} {j p} (ha : EJ X R Γ a eD m) : TJ X R Γ (.Compare a [.IsNot] [.Constant .none j p] pos) (bindM m fun x => pureM (!isNon x)) := t_cmp op_notN v_notD ha e_non
end
/-- None or not: as data -/
theorem Dc.opt {α : Type} {n : Nat} [DecidableEq α] {ea : α → PyData} (h : NN ea) (k : Dc n ea) : Dc n (eO ea) := ⟨fun x => by cases x with
  | none => rfl
  | some x => exact k.plain x, fun x => by cases x with
  | none => simp [eO, PyData.depth]
  | some x => exact k.depth x, fun x y => by
    have aux : ∀ d : PyData, d ≠ .none → PyData.eqv .none d = false ∧ PyData.eqv d .none = false := fun d hd => by cases d <;> simp [PyData.eqv] at hd ⊢
    cases x with
    | none => cases y with
      | none => simp [eO, PyData.eqv]
      | some y => simp [eO, (aux _ (h y)).1]
    | some x => cases y with
      | none => simp [eO, (aux _ (h x)).2]
      | some y => simp [eO, k.eqv x y]⟩
end Pz

namespace Pz
open PySem PySem.Spec PyProof.Rows L2

/-! ### t[::-1] -/
section
variable {prog : Program} {w : World} {A : Around} {E : Value → Shared → Prop} {sh : Shared}
theorem sliceApplied_back {sl : Addr} {vs : Value} {n : Nat} {Q : Int × Int × Nat → Shared → Prop} (isSl : sh.heap.IsSliceOf sl .none .none vs) (back : IsPart vs (some (-1))) (want : Q ((n : Int) - 1, -1, n) sh) :
    wpAny (model prog w) A (Builtin.Slice.sliceApplied (.ref sl) (pure (n : Int))) Q E sh := by
  obtain ⟨ob, hob, hcls, hdat⟩ := isSl
  unfold Builtin.Slice.sliceApplied Builtin.Slice.sliceFields
  refine wpAny_bind (wpAny_bind (wpAny_field hob hdat (x := .none) rfl (wpAny_bind (wpAny_field hob hdat (x := .none) rfl (wpAny_bind (wpAny_field hob hdat (x := vs) rfl (wpAny_pure ?_)))))))
  refine wpAny_bind (HT.slicePart_ back ?_)
  show wpAny _ _ (if ((-1 : Int) == 0) = true then _ else _) _ _ sh
  rw [if_neg (by decide)]
  refine wpAny_bind (slicePart_none (wpAny_bind (slicePart_none (wpAny_bind (wpAny_pure ?_)))))
  show wpAny _ _ (match Builtin.Slice.sliceAdjust none none (-1) (n : Int) with | (x, y) => pure (x, (-1 : Int), Builtin.Slice.slicePlaces x y (-1))) _ _ sh
  show wpAny _ _ (pure ((n : Int) - 1, (-1 : Int), Builtin.Slice.slicePlaces ((n : Int) - 1) (-1) (-1))) _ _ sh
  have e1 : Builtin.Slice.slicePlaces ((n : Int) - 1) (-1) (-1) = n := by
    unfold Builtin.Slice.slicePlaces
    rw [if_neg (by decide)]
    by_cases h : (n : Int) - 1 > -1
    · rw [if_pos h, show (-(-1) : Int) = 1 by decide, Int.ediv_one]; omega
    · rw [if_neg h]; omega
  rw [e1]
  exact wpAny_pure want
theorem fm_cong {α β : Type} {f g : α → Option β} : ∀ {l : List α}, (∀ x ∈ l, f x = g x) → l.filterMap f = l.filterMap g
  | [], _ => rfl
  | x :: l, h => by rw [List.filterMap_cons, List.filterMap_cons, h x List.mem_cons_self, fm_cong fun y hy => h y (List.mem_cons_of_mem _ hy)]
theorem pick_back (xs : Array Value) : ((List.range xs.size).filterMap fun (m : Nat) => xs[(((xs.size : Int) - 1) + (m : Int) * (-1)).toNat]?).toArray = xs.toList.reverse.toArray := by
  have e1 : ((List.range xs.size).filterMap fun (m : Nat) => xs[(((xs.size : Int) - 1) + (m : Int) * (-1)).toNat]?) = ((List.range xs.size).map fun k => xs.size - 1 - k).filterMap (xs[·]?) := by
    rw [List.filterMap_map]
    refine fm_cong fun m hm => ?_
    have := List.mem_range.mp hm
    simp only [Function.comp]
    rw [show (((xs.size : Int) - 1) + (m : Int) * (-1)).toNat = xs.size - 1 - m by omega]
  rw [e1, PySem.W.krv_range, List.filterMap_reverse, PySem.W.krv_all]
theorem getItem_tuple_back {t sl : Addr} {items : Array Value} {vs : Value} {Q : Value → Shared → Prop} (tup : IsTup sh.heap t items) (isSl : sh.heap.IsSliceOf sl .none .none vs) (back : IsPart vs (some (-1))) (small : items.size ≤ sizeLine)
    (want : Q (.ref sh.heap.objs.size) { sh with heap := sh.heap.push { cls := .type "tuple", data := .seq items.toList.reverse.toArray } }) : wpAny (model prog w) A (getItem (.ref t) (.ref sl)) Q E sh := by
  have fits : sizeOk (.seq items.toList.reverse.toArray) := by
    show items.toList.reverse.toArray.size ≤ sizeLine
    rw [List.size_toArray, List.length_reverse, Array.length_toList]; exact small
  obtain ⟨ob, hob, hcls, hdat⟩ := id isSl
  have tySl : sh.TypeIs (.ref sl) "slice" := ⟨ob, hob, hcls⟩
  unfold getItem
  try with_reducible refine wpAny_holding ?_
  first | refine wpAny_bind (wpAny_pure ?_) | skip
  refine wpAny_bind (wpAny_sequenceKey tup.typeIs (by decide) ?_)
  refine wpAny_bind (wpAny_callSpecial?_slot (name := Str.ofString "__getitem__") tup.typeIs PyProof.Rows.slot_tuple_getitem (wpAny_call_entry PyProof.Rows.slot_tuple_getitem tup.typeIs entry_tuple_getitem ?_ (args_tuple_getitem _ _)))
  show wpAny _ _ (Builtin.Tuple.tupleItemsOf (.ref t) >>= _) _ _ sh
  refine wpAny_bind (tupleItemsOf_ tup ?_)
  refine wpAny_bind (wpAny_typeOf tySl ?_)
  rw [if_pos (by decide)]
  refine wpAny_bind (sliceApplied_back isSl back ?_)
  show wpAny _ _ (if (((items.size : Int) - 1) == 0 && (-1 : Int) == 1 && items.size == items.size) = true then _ else _) _ _ sh
  rw [if_neg (by simp), pick_back]
  first
    | exact wpAny_bind (m := Builtin.Tuple.tupleExact _) (wpAny_newObj_type (wpAny_pure ⟨_, rfl, wpAny_pure want⟩) fits)
    | exact wpAny_bind (m := Builtin.Tuple.tupleExact _) (wpAny_newObj_type (wpAny_bind (wpAny_pure (wpAny_pure ⟨_, rfl, wpAny_pure want⟩))) fits)
    | exact wpAny_bind (wpAny_bind (m := Builtin.Tuple.tupleExact _) (wpAny_newObj_type (wpAny_pure (wpAny_pure ⟨_, rfl, wpAny_pure want⟩)) fits))
    | exact wpAny_bind (wpAny_bind (m := Builtin.Tuple.tupleExact _) (wpAny_newObj_type (wpAny_pure ⟨_, rfl, wpAny_pure want⟩) fits))
end
section
variable {X : Cx} {R : Res} {Γ : List Slot} {α β : Type} {ea : α → PyData} {eb : β → PyData}
def tRevT (K : PySem.W.Frag) (te : TE) : TE := fun σ H Q => te σ H fun x H1 => ∃ a ys, x = .ref a ∧ SqT K H1 a ys ∧ ∀ p, H1 p = none → Q (.ref p) (upd H1 p (.tup ys.reverse))
theorem pe_revT {e : Expr} {te : TE} {k : Nat} {p1 p2 p3 pos : Pos} (he : PE X e te) : PE X (.Subscript e (.Slice none none (some (.UnaryOp .USub (.Constant (.int 1) k p1) p2)) p3) pos) (tRevT X.K te) := by
  refine ⟨fun pins s σ H Q I want => ?_⟩
  refine Subscript_ (thn (he.run pins s σ H _ I want) fun v s1 ⟨x, H1, I1, r1, q1⟩ => ?_)
  obtain ⟨a, ys, ex, hx, q⟩ := q1
  subst ex
  cases r1
  have hstep : PO X (some (.UnaryOp .USub (.Constant (.int 1) k p1) p2)) (tPart (tUn (rU fun i => .int (-i)) (tC (.int 1)))) := po_some (pe_un un_neg pe_int)
  refine wpAny_Slice (thn (po_none.run pins s1 σ H1 (fun o H2 => o = none ∧ H2 = H1) I1 ⟨rfl, rfl⟩) fun vl s2 ⟨l, H2, I2, pl, el, e2⟩ => ?_)
  subst el e2
  refine thn (po_none.run pins s2 σ H2 (fun o H3 => o = none ∧ H3 = H2) I2 ⟨rfl, rfl⟩) fun vu s3 ⟨u, H3, I3, pu, eu, e3⟩ => ?_
  subst eu e3
  refine thn (hstep.run pins s3 σ H3 (fun o H4 => o = some (-1) ∧ H4 = H3) I3 ⟨1, rfl, -1, rfl, rfl, rfl⟩) fun vstep s4 ⟨o, H4, I4, ps, eo, e4⟩ => ?_
  subst eo e4
  cases pl
  cases pu
  have I5 : Inv X pins σ H4 { s4 with heap := s4.heap.push { cls := .type "slice", data := .fields #[.none, .none, vstep] } } := I4.kept (t' := s4.toks) fun b ob q => Heap.get?_push_of_some _ q
  obtain ⟨its, r, tup, hz⟩ := I5.tuple hx
  have hlen := r.length
  show wpAny (model X.prog X.w) X.A (subscriptTail e (.Slice none none (some (.UnaryOp .USub (.Constant (.int 1) k p1) p2)) p3) (.ref a) (.ref s4.heap.objs.size)) (EP X pins σ Q) X.xe { s4 with heap := s4.heap.push { cls := .type "slice", data := .fields #[.none, .none, vstep] } }
  refine tail_any (ops := [.ref a, .ref s4.heap.objs.size]) tup.typeIs (PyProof.Rows.slot_tuple_getitem.lookup) ?_ (by with_unfolding_all rfl)
  refine getItem_tuple_back tup (Heap.IsSliceOf.new _ .none .none vstep) ps (by rw [List.size_toArray]; omega) ?_
  refine ⟨.ref _, _, I5.laid (t' := s4.toks) (o := .tup ys.reverse) (fun b ob q => Heap.get?_push_of_some _ q) (Nat.le_refl _) ?_, rfl, q _ (I5.hok.fresh (Nat.le_refl _))⟩
  exact ⟨by rw [List.length_reverse]; exact hz, _, r.reverse, IsTup.new _ _⟩
theorem e_revT {e : Expr} {k : Nat} {p1 p2 p3 pos : Pos} {m : M (List α)} (h : EJ X R Γ e (eT ea) m) : EJ X R Γ (.Subscript e (.Slice none none (some (.UnaryOp .USub (.Constant (.int 1) k p1) p2)) p3) pos) (eT ea) (bindM m fun x => pureM x.reverse) := by
  refine PE.weak (pe_revT h) fun σ H Q ⟨O, H0, ow, st, z, st', rel, ok, e, q⟩ => ?_
  obtain ⟨x, s1, e1, e2⟩ := bind_some e
  obtain ⟨rfl, rfl⟩ := pure_some e2
  refine ⟨O, H0, ow, st, x, s1, rel, ok, e1, fun v H1 k1 o1 rp => ?_⟩
  cases rp with
  | @tup a vs _ na ha hr =>
    refine ⟨a, vs, rfl, SqT.of ha, fun p n => q _ _ (keepS k1 (same_new n)) (o1.same (same_new n)) (.tup ((rel.grow k1 (okZ o1)).ad.fresh n) upd_same ?_)⟩
    rw [List.map_reverse]
    exact hr.reverse.keep (Keep.of_same (same_new n))
theorem f_revL {e : Expr} {k : Nat} {p1 p2 p3 pos : Pos} {m : M (List α)} (h : EJ X R Γ e (eL ea) m) : EF X R Γ (.Subscript e (.Slice none none (some (.UnaryOp .USub (.Constant (.int 1) k p1) p2)) p3) pos) ea (bindM m fun x => pureM x.reverse) := by
  refine PE.weak (pe_revL h) fun σ H Q ⟨O, H0, ow, st, z, st', rel, ok, e, q⟩ => ?_
  obtain ⟨x, s1, e1, e2⟩ := bind_some e
  obtain ⟨rfl, rfl⟩ := pure_some e2
  refine ⟨O, H0, ow, st, x, s1, rel, ok, e1, fun v H1 k1 o1 rp => ?_⟩
  cases rp with
  | @lst a vs _ na ha hr =>
    refine ⟨a, vs, rfl, SqL.of ha, fun p n => q p _ _ (noneK k1 o1 n) (keepS k1 (same_new n)) (o1.same (same_new n)) upd_same ?_⟩
    rw [List.map_reverse]
    exact hr.reverse.at n (Keep.of_same (same_new n))

/-! ### zip -/
theorem zipL_get (xs : List α) (ys : List β) (i : Nat) : (zipL xs ys)[i]? = (xs[i]?.bind fun x => ys[i]?.map fun y => (x, y, ())) := by
  unfold zipL
  rw [List.getElem?_zipWith]
  cases xs[i]? <;> cases ys[i]? <;> rfl
theorem itok_zipL {K : PySem.W.Frag} {A : Av} {H1 : Hp} {p q : Addr} {vs ws : List V} {xs : List α} {ys : List β} (na : ¬ A p) (ha : H1 p = some (.lst vs)) (r : RpAll A H1 vs (xs.map ea)) (nb : ¬ A q) (hb : H1 q = some (.lst ws)) (r2 : RpAll A H1 ws (ys.map eb)) :
    ItOk (Itz K p q) A H1 ((zipL xs ys).map (eP (eC ea (eC eb eU)))) := fun H i k => by
  have hH := k _ _ na ha
  have hH2 := k _ _ nb hb
  have hl := r.length
  have hl2 := r2.length
  rw [List.length_map] at hl hl2
  refine ⟨fun h => ⟨vs, ws, SqL.of hH, SqL.of hH2, ?_⟩, fun d hd => ?_⟩
  · rw [List.length_map] at h
    unfold zipL at h
    rw [List.length_zipWith] at h
    omega
  · rw [List.getElem?_map, zipL_get] at hd
    cases hx : xs[i]? with
    | none => rw [hx] at hd; cases hd
    | some x =>
      cases hy : ys[i]? with
      | none => rw [hx, hy] at hd; cases hd
      | some y =>
        rw [hx, hy] at hd
        obtain ⟨v, hv, rv⟩ := r.get (show (xs.map ea)[i]? = some (ea x) by rw [List.getElem?_map, hx]; rfl)
        obtain ⟨v2, hv2, rv2⟩ := r2.get (show (ys.map eb)[i]? = some (eb y) by rw [List.getElem?_map, hy]; rfl)
        refine ⟨⟨vs, ws, v, v2, SqL.of hH, SqL.of hH2, hv, hv2⟩, fun w H' yl => ?_⟩
        obtain ⟨T, a', b', rfl, nT, rfl, ha', hb'⟩ := yl
        have e1 := ha' vs (SqL.of hH)
        rw [hv] at e1
        obtain rfl : v = a' := Option.some.inj e1
        have e2 := hb' ws (SqL.of hH2)
        rw [hv2] at e2
        obtain rfl : v2 = b' := Option.some.inj e2
        refine ⟨same_new nT, fun A' h1 h2 => ?_⟩
        have hd' : PyData.tuple [ea x, eb y] = d := Option.some.inj hd
        subst hd'
        exact pair_rp (fun z => h2 T z nT) ((Rp.move (fun b o nb e => ⟨h1 b o nb e, k b o nb e⟩) _ _ rv).keep (Keep.of_same (same_new nT))) ((Rp.move (fun b o nb e => ⟨h1 b o nb e, k b o nb e⟩) _ _ rv2).keep (Keep.of_same (same_new nT))) upd_same
theorem itok_zipT {K : PySem.W.Frag} {A : Av} {H1 : Hp} {p q : Addr} {vs ws : List V} {xs : List α} {ys : List β} (na : ¬ A p) (ha : H1 p = some (.tup vs)) (r : RpAll A H1 vs (xs.map ea)) (nb : ¬ A q) (hb : H1 q = some (.tup ws)) (r2 : RpAll A H1 ws (ys.map eb)) :
    ItOk (RZ.ItzT K p q) A H1 ((zipL xs ys).map (eP (eC ea (eC eb eU)))) := fun H i k => by
  have hH := k _ _ na ha
  have hH2 := k _ _ nb hb
  have hl := r.length
  have hl2 := r2.length
  rw [List.length_map] at hl hl2
  refine ⟨fun h => ⟨vs, ws, SqT.of hH, SqT.of hH2, ?_⟩, fun d hd => ?_⟩
  · rw [List.length_map] at h
    unfold zipL at h
    rw [List.length_zipWith] at h
    omega
  · rw [List.getElem?_map, zipL_get] at hd
    cases hx : xs[i]? with
    | none => rw [hx] at hd; cases hd
    | some x =>
      cases hy : ys[i]? with
      | none => rw [hx, hy] at hd; cases hd
      | some y =>
        rw [hx, hy] at hd
        obtain ⟨v, hv, rv⟩ := r.get (show (xs.map ea)[i]? = some (ea x) by rw [List.getElem?_map, hx]; rfl)
        obtain ⟨v2, hv2, rv2⟩ := r2.get (show (ys.map eb)[i]? = some (eb y) by rw [List.getElem?_map, hy]; rfl)
        refine ⟨⟨vs, ws, v, v2, SqT.of hH, SqT.of hH2, hv, hv2⟩, fun w H' yl => ?_⟩
        obtain ⟨T, a', b', rfl, nT, rfl, ha', hb'⟩ := yl
        have e1 := ha' vs (SqT.of hH)
        rw [hv] at e1
        obtain rfl : v = a' := Option.some.inj e1
        have e2 := hb' ws (SqT.of hH2)
        rw [hv2] at e2
        obtain rfl : v2 = b' := Option.some.inj e2
        refine ⟨same_new nT, fun A' h1 h2 => ?_⟩
        have hd' : PyData.tuple [ea x, eb y] = d := Option.some.inj hd
        subst hd'
        exact pair_rp (fun z => h2 T z nT) ((Rp.move (fun b o nb e => ⟨h1 b o nb e, k b o nb e⟩) _ _ rv).keep (Keep.of_same (same_new nT))) ((Rp.move (fun b o nb e => ⟨h1 b o nb e, k b o nb e⟩) _ _ rv2).keep (Keep.of_same (same_new nT))) upd_same
theorem i_zipLL {a b : Expr} {pos : Pos} {elts : List Expr} {k : Nat} {tpos p : Pos} {ma : M (List α)} {mb : M (List β)} (hm : X.mg "zip" = none) (ha : EJ X R Γ a (eL ea) ma) (hb : EJ X R Γ b (eL eb) mb) (hg : Gl X "zip" := by rfl)
    (hs : starEach [a, b] X.env = (false, eval a X.env) :: starEach [b] X.env := by rfl) (hs2 : starEach [b] X.env = (false, eval b X.env) :: starEach [] X.env := by rfl) :
    IJ X R Γ (.Call (.Name "zip" p) [a, b] [] pos) (.Tuple elts k tpos) (eP (eC ea (eC eb eU))) (bindM ma fun x => bindM mb fun y => pureM (zipL x y)) := by
  refine PI.weak (PI.fits (pi_zip hg hm (pa_cons ha (pa_cons hb pa_nil hs2) hs) hs (by rw [hs2]; rfl))) fun σ H Rr ⟨O, H0, ow, st, z, st', rel, ok, e, q⟩ => ?_
  obtain ⟨x, s1, e1, e2⟩ := bind_some e
  obtain ⟨y, s2, e3, e4⟩ := bind_some e2
  obtain ⟨rfl, rfl⟩ := pure_some e4
  refine ⟨O, H0, ow, st, x, s1, rel, ok, e1, fun v H1 k1 o1 rp => ?_⟩
  have rel1 := rel.grow k1 (okZ o1)
  refine ⟨O, H0, ow, s1, y, s2, rel1, o1, e3, fun v2 H2 k2 o2 rp2 => ?_⟩
  have rpk := rp.keep (rel1.keepA k2)
  cases rpk with
  | @lst p0 vs _ na h0 ra =>
    cases rp2 with
    | @lst p1 ws _ nb h1 rb =>
      exact ⟨p0, p1, vs, ws, rfl, SqL.of h0, SqL.of h1, fun fit => q _ H2 (k1.trans k2) o2 (by have := fit p0 vs (.inl h0); rw [ra.length, List.length_map] at this; simp [zipL]; omega) (itok_zipL na h0 ra nb h1 rb)⟩
theorem i_zipTT {a b : Expr} {pos : Pos} {elts : List Expr} {k : Nat} {tpos p : Pos} {ma : M (List α)} {mb : M (List β)} (hm : X.mg "zip" = none) (ha : EJ X R Γ a (eT ea) ma) (hb : EJ X R Γ b (eT eb) mb) (hg : Gl X "zip" := by rfl)
    (hs : starEach [a, b] X.env = (false, eval a X.env) :: starEach [b] X.env := by rfl) (hs2 : starEach [b] X.env = (false, eval b X.env) :: starEach [] X.env := by rfl) :
    IJ X R Γ (.Call (.Name "zip" p) [a, b] [] pos) (.Tuple elts k tpos) (eP (eC ea (eC eb eU))) (bindM ma fun x => bindM mb fun y => pureM (zipL x y)) := by
  refine PI.weak (PI.fits (RZ.pi_zipA hg hm (pa_cons ha (pa_cons hb pa_nil hs2) hs) hs (by rw [hs2]; rfl))) fun σ H Rr ⟨O, H0, ow, st, z, st', rel, ok, e, q⟩ => ?_
  obtain ⟨x, s1, e1, e2⟩ := bind_some e
  obtain ⟨y, s2, e3, e4⟩ := bind_some e2
  obtain ⟨rfl, rfl⟩ := pure_some e4
  refine ⟨O, H0, ow, st, x, s1, rel, ok, e1, fun v H1 k1 o1 rp => ?_⟩
  have rel1 := rel.grow k1 (okZ o1)
  refine ⟨O, H0, ow, s1, y, s2, rel1, o1, e3, fun v2 H2 k2 o2 rp2 => ?_⟩
  have rpk := rp.keep (rel1.keepA k2)
  cases rpk with
  | @tup p0 vs _ na h0 ra =>
    cases rp2 with
    | @tup p1 ws _ nb h1 rb =>
      exact ⟨p0, p1, vs, ws, rfl, .inr ⟨SqT.of h0, SqT.of h1, fun fit => q _ H2 (k1.trans k2) o2 (by have := fit p0 vs (.inr h0); rw [ra.length, List.length_map] at this; simp [zipL]; omega) (itok_zipT na h0 ra nb h1 rb)⟩⟩
end
end Pz

namespace Pz
open PySem PySem.Spec PyProof.Rows L2 MeetsSeq SeqAt
/-! a dict beside other data: neither side knows the other -/
def IsD (hp : Heap) (l : Addr) : Prop := ∃ (dd : Option Addr) (es : Array DictEntry) (ep : Nat) (sl : Array (Option Value)), hp.get? l = some { cls := .type "dict", dict := dd, data := .dict es ep, slots := sl }
theorem dict_eq_bool (l : Addr) (es : Array DictEntry) (ep : Nat) (dd : Option Addr) (sl : Array (Option Value)) (c : Bool) :
    Meets (Builtin.«dict.__eq__» ⟨[.ref l, .bool c], []⟩) (fun _ R sh => sh.heap.get? l = some { cls := .type "dict", dict := dd, data := .dict es ep, slots := sl } ∧ R (.ok (.ret .notImplemented)) sh) :=
  .of_wp fun prog w A R sh want => by
    obtain ⟨hq, gq, dq, tq, oq⟩ := sh
    obtain ⟨hl, want⟩ := want
    have f1 := F.sub_bool_dict
    wp_walk using AutoSeq1.wpAny_loadPart' hl
    exact ⟨_, rfl, want⟩
theorem bool_eq_dict (c : Bool) (l : Addr) (es : Array DictEntry) (ep : Nat) (dd : Option Addr) (sl : Array (Option Value)) :
    Meets (Builtin.«int.__eq__» ⟨[.bool c, .ref l], []⟩) (fun _ R sh => sh.heap.get? l = some { cls := .type "dict", dict := dd, data := .dict es ep, slots := sl } ∧ R (.ok (.ret .notImplemented)) sh) :=
  .of_wp fun prog w A R sh want => by
    obtain ⟨hq, gq, dq, tq, oq⟩ := sh
    obtain ⟨hl, want⟩ := want
    wp_walk using AutoSeq1.wpAny_loadPart' hl, wpAny_load hl
    exact ⟨_, rfl, want⟩
theorem dict_eq_int (l : Addr) (es : Array DictEntry) (ep : Nat) (dd : Option Addr) (sl : Array (Option Value)) (c : Int) (u : Tok) :
    Meets (Builtin.«dict.__eq__» ⟨[.ref l, .int c u], []⟩) (fun _ R sh => sh.heap.get? l = some { cls := .type "dict", dict := dd, data := .dict es ep, slots := sl } ∧ R (.ok (.ret .notImplemented)) sh) :=
  .of_wp fun prog w A R sh want => by
    obtain ⟨hq, gq, dq, tq, oq⟩ := sh
    obtain ⟨hl, want⟩ := want
    have f1 := F.sub_int_dict
    wp_walk using AutoSeq1.wpAny_loadPart' hl
    exact ⟨_, rfl, want⟩
theorem int_eq_dict (c : Int) (u : Tok) (l : Addr) (es : Array DictEntry) (ep : Nat) (dd : Option Addr) (sl : Array (Option Value)) :
    Meets (Builtin.«int.__eq__» ⟨[.int c u, .ref l], []⟩) (fun _ R sh => sh.heap.get? l = some { cls := .type "dict", dict := dd, data := .dict es ep, slots := sl } ∧ R (.ok (.ret .notImplemented)) sh) :=
  .of_wp fun prog w A R sh want => by
    obtain ⟨hq, gq, dq, tq, oq⟩ := sh
    obtain ⟨hl, want⟩ := want
    wp_walk using AutoSeq1.wpAny_loadPart' hl, wpAny_load hl
    exact ⟨_, rfl, want⟩
theorem dict_eq_str (l : Addr) (es : Array DictEntry) (ep : Nat) (dd : Option Addr) (sl : Array (Option Value)) (c : Str) (u : Tok) :
    Meets (Builtin.«dict.__eq__» ⟨[.ref l, .str c u], []⟩) (fun _ R sh => sh.heap.get? l = some { cls := .type "dict", dict := dd, data := .dict es ep, slots := sl } ∧ R (.ok (.ret .notImplemented)) sh) :=
  .of_wp fun prog w A R sh want => by
    obtain ⟨hq, gq, dq, tq, oq⟩ := sh
    obtain ⟨hl, want⟩ := want
    have f1 := F.sub_str_dict
    wp_walk using AutoSeq1.wpAny_loadPart' hl
    exact ⟨_, rfl, want⟩
theorem str_eq_dict (c : Str) (u : Tok) (l : Addr) (es : Array DictEntry) (ep : Nat) (dd : Option Addr) (sl : Array (Option Value)) :
    Meets (Builtin.«str.__eq__» ⟨[.str c u, .ref l], []⟩) (fun _ R sh => sh.heap.get? l = some { cls := .type "dict", dict := dd, data := .dict es ep, slots := sl } ∧ R (.ok (.ret .notImplemented)) sh) :=
  .of_wp fun prog w A R sh want => by
    obtain ⟨hq, gq, dq, tq, oq⟩ := sh
    obtain ⟨hl, want⟩ := want
    wp_walk using AutoSeq1.wpAny_loadPart' hl, wpAny_load hl
    exact ⟨_, rfl, want⟩
theorem dict_eq_none (l : Addr) (es : Array DictEntry) (ep : Nat) (dd : Option Addr) (sl : Array (Option Value))  :
    Meets (Builtin.«dict.__eq__» ⟨[.ref l, .none], []⟩) (fun _ R sh => sh.heap.get? l = some { cls := .type "dict", dict := dd, data := .dict es ep, slots := sl } ∧ R (.ok (.ret .notImplemented)) sh) :=
  .of_wp fun prog w A R sh want => by
    obtain ⟨hq, gq, dq, tq, oq⟩ := sh
    obtain ⟨hl, want⟩ := want
    have f1 := F.sub_NoneType_dict
    wp_walk using AutoSeq1.wpAny_loadPart' hl
    exact ⟨_, rfl, want⟩
theorem dict_eq_list (l b : Addr) (es : Array DictEntry) (ep : Nat) (dd : Option Addr) (sl : Array (Option Value)) (ys : Array Value) (n2 : Nat) (d2 : Option Addr) (s2 : Array (Option Value)) :
    Meets (Builtin.«dict.__eq__» ⟨[.ref l, .ref b], []⟩) (fun _ R sh => sh.heap.get? l = some { cls := .type "dict", dict := dd, data := .dict es ep, slots := sl } ∧ sh.heap.get? b = some { cls := .type "list", dict := d2, data := .seq ys n2, slots := s2 } ∧ R (.ok (.ret .notImplemented)) sh) :=
  .of_wp fun prog w A R sh want => by
    obtain ⟨hq, gq, dq, tq, oq⟩ := sh
    obtain ⟨hl, hb, want⟩ := want
    have f1 := F.sub_list_dict
    wp_walk using AutoSeq1.wpAny_loadPart' hl, AutoSeq1.wpAny_loadPart' hb
    exact ⟨_, rfl, want⟩
theorem list_eq_dict (b l : Addr) (es : Array DictEntry) (ep : Nat) (dd : Option Addr) (sl : Array (Option Value)) (ys : Array Value) (n2 : Nat) (d2 : Option Addr) (s2 : Array (Option Value)) :
    Meets (Builtin.«list.__eq__» ⟨[.ref b, .ref l], []⟩) (fun _ R sh => sh.heap.get? b = some { cls := .type "list", dict := d2, data := .seq ys n2, slots := s2 } ∧ sh.heap.get? l = some { cls := .type "dict", dict := dd, data := .dict es ep, slots := sl } ∧ R (.ok (.ret .notImplemented)) sh) :=
  .of_wp fun prog w A R sh want => by
    obtain ⟨hq, gq, dq, tq, oq⟩ := sh
    obtain ⟨hb, hl, want⟩ := want
    have f1 := F.sub_dict_list
    wp_walk using AutoSeq1.wpAny_loadPart' hb, AutoSeq1.wpAny_loadPart' hl
    exact ⟨_, rfl, want⟩
theorem dict_eq_tuple (l b : Addr) (es : Array DictEntry) (ep : Nat) (dd : Option Addr) (sl : Array (Option Value)) (ys : Array Value) (n2 : Nat) (d2 : Option Addr) (s2 : Array (Option Value)) :
    Meets (Builtin.«dict.__eq__» ⟨[.ref l, .ref b], []⟩) (fun _ R sh => sh.heap.get? l = some { cls := .type "dict", dict := dd, data := .dict es ep, slots := sl } ∧ sh.heap.get? b = some { cls := .type "tuple", dict := d2, data := .seq ys n2, slots := s2 } ∧ R (.ok (.ret .notImplemented)) sh) :=
  .of_wp fun prog w A R sh want => by
    obtain ⟨hq, gq, dq, tq, oq⟩ := sh
    obtain ⟨hl, hb, want⟩ := want
    have f1 := F.sub_tuple_dict
    wp_walk using AutoSeq1.wpAny_loadPart' hl, AutoSeq1.wpAny_loadPart' hb
    exact ⟨_, rfl, want⟩
theorem tuple_eq_dict (b l : Addr) (es : Array DictEntry) (ep : Nat) (dd : Option Addr) (sl : Array (Option Value)) (ys : Array Value) (n2 : Nat) (d2 : Option Addr) (s2 : Array (Option Value)) :
    Meets (Builtin.«tuple.__eq__» ⟨[.ref b, .ref l], []⟩) (fun _ R sh => sh.heap.get? b = some { cls := .type "tuple", dict := d2, data := .seq ys n2, slots := s2 } ∧ sh.heap.get? l = some { cls := .type "dict", dict := dd, data := .dict es ep, slots := sl } ∧ R (.ok (.ret .notImplemented)) sh) :=
  .of_wp fun prog w A R sh want => by
    obtain ⟨hq, gq, dq, tq, oq⟩ := sh
    obtain ⟨hb, hl, want⟩ := want
    have f1 := F.sub_dict_tuple
    wp_walk using AutoSeq1.wpAny_loadPart' hb, AutoSeq1.wpAny_loadPart' hl
    exact ⟨_, rfl, want⟩
theorem dict_ne_bool (l : Addr) (es : Array DictEntry) (ep : Nat) (dd : Option Addr) (sl : Array (Option Value)) (c : Bool) :
    Meets (Builtin.«dict.__ne__» ⟨[.ref l, .bool c], []⟩) (fun _ R sh => sh.heap.get? l = some { cls := .type "dict", dict := dd, data := .dict es ep, slots := sl } ∧ R (.ok (.ret .notImplemented)) sh) :=
  .of_wp fun prog w A R sh want => by
    obtain ⟨hq, gq, dq, tq, oq⟩ := sh
    obtain ⟨hl, want⟩ := want
    have f1 := F.sub_bool_dict
    wp_walk using AutoSeq1.wpAny_loadPart' hl
    exact ⟨_, rfl, want⟩
theorem bool_ne_dict (c : Bool) (l : Addr) (es : Array DictEntry) (ep : Nat) (dd : Option Addr) (sl : Array (Option Value)) :
    Meets (Builtin.«int.__ne__» ⟨[.bool c, .ref l], []⟩) (fun _ R sh => sh.heap.get? l = some { cls := .type "dict", dict := dd, data := .dict es ep, slots := sl } ∧ R (.ok (.ret .notImplemented)) sh) :=
  .of_wp fun prog w A R sh want => by
    obtain ⟨hq, gq, dq, tq, oq⟩ := sh
    obtain ⟨hl, want⟩ := want
    wp_walk using AutoSeq1.wpAny_loadPart' hl, wpAny_load hl
    exact ⟨_, rfl, want⟩
theorem dict_ne_int (l : Addr) (es : Array DictEntry) (ep : Nat) (dd : Option Addr) (sl : Array (Option Value)) (c : Int) (u : Tok) :
    Meets (Builtin.«dict.__ne__» ⟨[.ref l, .int c u], []⟩) (fun _ R sh => sh.heap.get? l = some { cls := .type "dict", dict := dd, data := .dict es ep, slots := sl } ∧ R (.ok (.ret .notImplemented)) sh) :=
  .of_wp fun prog w A R sh want => by
    obtain ⟨hq, gq, dq, tq, oq⟩ := sh
    obtain ⟨hl, want⟩ := want
    have f1 := F.sub_int_dict
    wp_walk using AutoSeq1.wpAny_loadPart' hl
    exact ⟨_, rfl, want⟩
theorem int_ne_dict (c : Int) (u : Tok) (l : Addr) (es : Array DictEntry) (ep : Nat) (dd : Option Addr) (sl : Array (Option Value)) :
    Meets (Builtin.«int.__ne__» ⟨[.int c u, .ref l], []⟩) (fun _ R sh => sh.heap.get? l = some { cls := .type "dict", dict := dd, data := .dict es ep, slots := sl } ∧ R (.ok (.ret .notImplemented)) sh) :=
  .of_wp fun prog w A R sh want => by
    obtain ⟨hq, gq, dq, tq, oq⟩ := sh
    obtain ⟨hl, want⟩ := want
    wp_walk using AutoSeq1.wpAny_loadPart' hl, wpAny_load hl
    exact ⟨_, rfl, want⟩
theorem dict_ne_str (l : Addr) (es : Array DictEntry) (ep : Nat) (dd : Option Addr) (sl : Array (Option Value)) (c : Str) (u : Tok) :
    Meets (Builtin.«dict.__ne__» ⟨[.ref l, .str c u], []⟩) (fun _ R sh => sh.heap.get? l = some { cls := .type "dict", dict := dd, data := .dict es ep, slots := sl } ∧ R (.ok (.ret .notImplemented)) sh) :=
  .of_wp fun prog w A R sh want => by
    obtain ⟨hq, gq, dq, tq, oq⟩ := sh
    obtain ⟨hl, want⟩ := want
    have f1 := F.sub_str_dict
    wp_walk using AutoSeq1.wpAny_loadPart' hl
    exact ⟨_, rfl, want⟩
theorem str_ne_dict (c : Str) (u : Tok) (l : Addr) (es : Array DictEntry) (ep : Nat) (dd : Option Addr) (sl : Array (Option Value)) :
    Meets (Builtin.«str.__ne__» ⟨[.str c u, .ref l], []⟩) (fun _ R sh => sh.heap.get? l = some { cls := .type "dict", dict := dd, data := .dict es ep, slots := sl } ∧ R (.ok (.ret .notImplemented)) sh) :=
  .of_wp fun prog w A R sh want => by
    obtain ⟨hq, gq, dq, tq, oq⟩ := sh
    obtain ⟨hl, want⟩ := want
    wp_walk using AutoSeq1.wpAny_loadPart' hl, wpAny_load hl
    exact ⟨_, rfl, want⟩
theorem dict_ne_none (l : Addr) (es : Array DictEntry) (ep : Nat) (dd : Option Addr) (sl : Array (Option Value))  :
    Meets (Builtin.«dict.__ne__» ⟨[.ref l, .none], []⟩) (fun _ R sh => sh.heap.get? l = some { cls := .type "dict", dict := dd, data := .dict es ep, slots := sl } ∧ R (.ok (.ret .notImplemented)) sh) :=
  .of_wp fun prog w A R sh want => by
    obtain ⟨hq, gq, dq, tq, oq⟩ := sh
    obtain ⟨hl, want⟩ := want
    have f1 := F.sub_NoneType_dict
    wp_walk using AutoSeq1.wpAny_loadPart' hl
    exact ⟨_, rfl, want⟩
theorem dict_ne_list (l b : Addr) (es : Array DictEntry) (ep : Nat) (dd : Option Addr) (sl : Array (Option Value)) (ys : Array Value) (n2 : Nat) (d2 : Option Addr) (s2 : Array (Option Value)) :
    Meets (Builtin.«dict.__ne__» ⟨[.ref l, .ref b], []⟩) (fun _ R sh => sh.heap.get? l = some { cls := .type "dict", dict := dd, data := .dict es ep, slots := sl } ∧ sh.heap.get? b = some { cls := .type "list", dict := d2, data := .seq ys n2, slots := s2 } ∧ R (.ok (.ret .notImplemented)) sh) :=
  .of_wp fun prog w A R sh want => by
    obtain ⟨hq, gq, dq, tq, oq⟩ := sh
    obtain ⟨hl, hb, want⟩ := want
    have f1 := F.sub_list_dict
    wp_walk using AutoSeq1.wpAny_loadPart' hl, AutoSeq1.wpAny_loadPart' hb
    exact ⟨_, rfl, want⟩
theorem list_ne_dict (b l : Addr) (es : Array DictEntry) (ep : Nat) (dd : Option Addr) (sl : Array (Option Value)) (ys : Array Value) (n2 : Nat) (d2 : Option Addr) (s2 : Array (Option Value)) :
    Meets (Builtin.«list.__ne__» ⟨[.ref b, .ref l], []⟩) (fun _ R sh => sh.heap.get? b = some { cls := .type "list", dict := d2, data := .seq ys n2, slots := s2 } ∧ sh.heap.get? l = some { cls := .type "dict", dict := dd, data := .dict es ep, slots := sl } ∧ R (.ok (.ret .notImplemented)) sh) :=
  .of_wp fun prog w A R sh want => by
    obtain ⟨hq, gq, dq, tq, oq⟩ := sh
    obtain ⟨hb, hl, want⟩ := want
    have f1 := F.sub_dict_list
    wp_walk using AutoSeq1.wpAny_loadPart' hb, AutoSeq1.wpAny_loadPart' hl
    exact ⟨_, rfl, want⟩
theorem dict_ne_tuple (l b : Addr) (es : Array DictEntry) (ep : Nat) (dd : Option Addr) (sl : Array (Option Value)) (ys : Array Value) (n2 : Nat) (d2 : Option Addr) (s2 : Array (Option Value)) :
    Meets (Builtin.«dict.__ne__» ⟨[.ref l, .ref b], []⟩) (fun _ R sh => sh.heap.get? l = some { cls := .type "dict", dict := dd, data := .dict es ep, slots := sl } ∧ sh.heap.get? b = some { cls := .type "tuple", dict := d2, data := .seq ys n2, slots := s2 } ∧ R (.ok (.ret .notImplemented)) sh) :=
  .of_wp fun prog w A R sh want => by
    obtain ⟨hq, gq, dq, tq, oq⟩ := sh
    obtain ⟨hl, hb, want⟩ := want
    have f1 := F.sub_tuple_dict
    wp_walk using AutoSeq1.wpAny_loadPart' hl, AutoSeq1.wpAny_loadPart' hb
    exact ⟨_, rfl, want⟩
theorem tuple_ne_dict (b l : Addr) (es : Array DictEntry) (ep : Nat) (dd : Option Addr) (sl : Array (Option Value)) (ys : Array Value) (n2 : Nat) (d2 : Option Addr) (s2 : Array (Option Value)) :
    Meets (Builtin.«tuple.__ne__» ⟨[.ref b, .ref l], []⟩) (fun _ R sh => sh.heap.get? b = some { cls := .type "tuple", dict := d2, data := .seq ys n2, slots := s2 } ∧ sh.heap.get? l = some { cls := .type "dict", dict := dd, data := .dict es ep, slots := sl } ∧ R (.ok (.ret .notImplemented)) sh) :=
  .of_wp fun prog w A R sh want => by
    obtain ⟨hq, gq, dq, tq, oq⟩ := sh
    obtain ⟨hb, hl, want⟩ := want
    have f1 := F.sub_dict_tuple
    wp_walk using AutoSeq1.wpAny_loadPart' hb, AutoSeq1.wpAny_loadPart' hl
    exact ⟨_, rfl, want⟩
section
variable {A : Around} {s : Shared}
theorem ne_of_dict {l b : Addr} {ys : Array Value} {o : Obj} (hl : IsD s.heap l) (hb : s.heap.get? b = some o) (hc : o.cls ≠ .type "dict") : l ≠ b := fun z => by
  obtain ⟨dd, es, ep, sl, e⟩ := hl
  subst z
  rw [hb] at e
  cases e
  exact hc rfl
theorem eq_dict_bool {l : Addr} (c : Bool) (hl : IsD s.heap l) (hu : A.units < cLine) : RcAt A s (.ref l) (.bool c) false := fun prog w E Q want => by
  obtain ⟨dd, es, ep, sl, ob⟩ := hl
  exact rc_eq_decline_or (k := false) ⟨_, ob, rfl⟩ rfl (by decide) F.sub_bool_dict F.slot_dict_eq F.slot_bool_eq_refl (fun _ w2 => call_meets F.slot_dict_eq ⟨_, ob, rfl⟩ F.entry_dict_eq (F.args_dict_eq_2 _ _) (dict_eq_bool l es ep dd sl c) ⟨ob, w2⟩)
    (fun _ w2 => call_meets F.slot_bool_eq_refl rfl F.entry_int_eq (F.args_int_eq_2 _ _) (bool_eq_dict c l es ep dd sl) ⟨ob, w2⟩)
    (fun _ w2 => wpAny_of_eq (rfl : isSame (.ref l) (.bool c) = pure false) w2) (.inr hu) want
theorem eq_bool_dict_ {l : Addr} (c : Bool) (hl : IsD s.heap l) (hu : A.units < cLine) : RcAt A s (.bool c) (.ref l) false := fun prog w E Q want => by
  obtain ⟨dd, es, ep, sl, ob⟩ := hl
  exact rc_eq_decline_or (k := false) rfl ⟨_, ob, rfl⟩ (by decide) F.sub_dict_bool F.slot_bool_eq F.slot_dict_eq_refl
    (fun _ w2 => call_meets F.slot_bool_eq rfl F.entry_int_eq (F.args_int_eq_2 _ _) (bool_eq_dict c l es ep dd sl) ⟨ob, w2⟩)
    (fun _ w2 => call_meets F.slot_dict_eq_refl ⟨_, ob, rfl⟩ F.entry_dict_eq (F.args_dict_eq_2 _ _) (dict_eq_bool l es ep dd sl c) ⟨ob, w2⟩)
    (fun _ w2 => wpAny_of_eq (rfl : isSame (.bool c) (.ref l) = pure false) w2) (.inr hu) want
theorem eq_dict_int {l : Addr} (c : Int) (u : Tok) (hl : IsD s.heap l) (hu : A.units < cLine) : RcAt A s (.ref l) (.int c u) false := fun prog w E Q want => by
  obtain ⟨dd, es, ep, sl, ob⟩ := hl
  exact rc_eq_decline_or (k := false) ⟨_, ob, rfl⟩ (typeIs_int s c u) (by decide) F.sub_int_dict F.slot_dict_eq F.slot_int_eq_refl (fun _ w2 => call_meets F.slot_dict_eq ⟨_, ob, rfl⟩ F.entry_dict_eq (F.args_dict_eq_2 _ _) (dict_eq_int l es ep dd sl c u) ⟨ob, w2⟩)
    (fun _ w2 => call_meets F.slot_int_eq_refl (typeIs_int s c u) F.entry_int_eq (F.args_int_eq_2 _ _) (int_eq_dict c u l es ep dd sl) ⟨ob, w2⟩)
    (fun _ w2 => wpAny_of_eq (rfl : isSame (.ref l) (.int c u) = pure false) w2) (.inr hu) want
theorem eq_int_dict_ {l : Addr} (c : Int) (u : Tok) (hl : IsD s.heap l) (hu : A.units < cLine) : RcAt A s (.int c u) (.ref l) false := fun prog w E Q want => by
  obtain ⟨dd, es, ep, sl, ob⟩ := hl
  exact rc_eq_decline_or (k := false) (typeIs_int s c u) ⟨_, ob, rfl⟩ (by decide) F.sub_dict_int F.slot_int_eq F.slot_dict_eq_refl
    (fun _ w2 => call_meets F.slot_int_eq (typeIs_int s c u) F.entry_int_eq (F.args_int_eq_2 _ _) (int_eq_dict c u l es ep dd sl) ⟨ob, w2⟩)
    (fun _ w2 => call_meets F.slot_dict_eq_refl ⟨_, ob, rfl⟩ F.entry_dict_eq (F.args_dict_eq_2 _ _) (dict_eq_int l es ep dd sl c u) ⟨ob, w2⟩)
    (fun _ w2 => wpAny_of_eq (rfl : isSame (.int c u) (.ref l) = pure false) w2) (.inr hu) want
theorem eq_dict_str {l : Addr} (c : Str) (u : Tok) (hl : IsD s.heap l) (hu : A.units < cLine) : RcAt A s (.ref l) (.str c u) false := fun prog w E Q want => by
  obtain ⟨dd, es, ep, sl, ob⟩ := hl
  exact rc_eq_decline_or (k := false) ⟨_, ob, rfl⟩ (typeIs_str s c u) (by decide) F.sub_str_dict F.slot_dict_eq F.slot_str_eq_refl (fun _ w2 => call_meets F.slot_dict_eq ⟨_, ob, rfl⟩ F.entry_dict_eq (F.args_dict_eq_2 _ _) (dict_eq_str l es ep dd sl c u) ⟨ob, w2⟩)
    (fun _ w2 => call_meets F.slot_str_eq_refl (typeIs_str s c u) F.entry_str_eq (F.args_str_eq_2 _ _) (str_eq_dict c u l es ep dd sl) ⟨ob, w2⟩)
    (fun _ w2 => wpAny_of_eq (rfl : isSame (.ref l) (.str c u) = pure false) w2) (.inr hu) want
theorem eq_str_dict_ {l : Addr} (c : Str) (u : Tok) (hl : IsD s.heap l) (hu : A.units < cLine) : RcAt A s (.str c u) (.ref l) false := fun prog w E Q want => by
  obtain ⟨dd, es, ep, sl, ob⟩ := hl
  exact rc_eq_decline_or (k := false) (typeIs_str s c u) ⟨_, ob, rfl⟩ (by decide) F.sub_dict_str F.slot_str_eq F.slot_dict_eq_refl
    (fun _ w2 => call_meets F.slot_str_eq (typeIs_str s c u) F.entry_str_eq (F.args_str_eq_2 _ _) (str_eq_dict c u l es ep dd sl) ⟨ob, w2⟩)
    (fun _ w2 => call_meets F.slot_dict_eq_refl ⟨_, ob, rfl⟩ F.entry_dict_eq (F.args_dict_eq_2 _ _) (dict_eq_str l es ep dd sl c u) ⟨ob, w2⟩)
    (fun _ w2 => wpAny_of_eq (rfl : isSame (.str c u) (.ref l) = pure false) w2) (.inr hu) want
theorem eq_dict_none {l : Addr}  (hl : IsD s.heap l) (hu : A.units < cLine) : RcAt A s (.ref l) (.none) false := fun prog w E Q want => by
  obtain ⟨dd, es, ep, sl, ob⟩ := hl
  exact rc_eq_decline_or (k := false) ⟨_, ob, rfl⟩ rfl (by decide) F.sub_NoneType_dict F.slot_dict_eq F.slot_NoneType_eq_refl (fun _ w2 => call_meets F.slot_dict_eq ⟨_, ob, rfl⟩ F.entry_dict_eq (F.args_dict_eq_2 _ _) (dict_eq_none l es ep dd sl ) ⟨ob, w2⟩)
    (fun _ w2 => call_gives F.slot_NoneType_eq_refl rfl F.entry_NoneType_eq (F.args_NoneType_eq_2 _ _) (NoneType___eq___none_ref_0 l) w2)
    (fun _ w2 => wpAny_of_eq (rfl : isSame (.ref l) (.none) = pure false) w2) (.inr hu) want
theorem eq_none_dict_ {l : Addr}  (hl : IsD s.heap l) (hu : A.units < cLine) : RcAt A s (.none) (.ref l) false := fun prog w E Q want => by
  obtain ⟨dd, es, ep, sl, ob⟩ := hl
  exact rc_eq_decline_or (k := false) rfl ⟨_, ob, rfl⟩ (by decide) F.sub_dict_NoneType F.slot_NoneType_eq F.slot_dict_eq_refl
    (fun _ w2 => call_gives F.slot_NoneType_eq rfl F.entry_NoneType_eq (F.args_NoneType_eq_2 _ _) (NoneType___eq___none_ref_0 l) w2)
    (fun _ w2 => call_meets F.slot_dict_eq_refl ⟨_, ob, rfl⟩ F.entry_dict_eq (F.args_dict_eq_2 _ _) (dict_eq_none l es ep dd sl ) ⟨ob, w2⟩)
    (fun _ w2 => wpAny_of_eq (rfl : isSame (.none) (.ref l) = pure false) w2) (.inr hu) want
theorem eq_dict_list {l b : Addr} {ys : Array Value} (hl : IsD s.heap l) (hb : s.heap.IsList b ys) (hu : A.units < cLine) : RcAt A s (.ref l) (.ref b) false := fun prog w E Q want => by
  obtain ⟨⟨c2, d2, t2, s2⟩, ob2, e1, n2, e2⟩ := id hb
  simp only at e1 e2
  subst e1 e2
  have hne : l ≠ b := ne_of_dict (ys := #[]) hl ob2 (by simp)
  obtain ⟨dd, es, ep, sl, ob⟩ := hl
  exact rc_eq_decline_or (k := false) ⟨_, ob, rfl⟩ ⟨_, ob2, rfl⟩ (by decide) F.sub_list_dict F.slot_dict_eq F.slot_list_eq_refl
    (fun _ w2 => call_meets F.slot_dict_eq ⟨_, ob, rfl⟩ F.entry_dict_eq (F.args_dict_eq_2 _ _) (dict_eq_list l b es ep dd sl ys n2 d2 s2) ⟨ob, ob2, w2⟩)
    (fun _ w2 => call_meets F.slot_list_eq_refl ⟨_, ob2, rfl⟩ F.entry_list_eq (F.args_list_eq_2 _ _) (list_eq_dict b l es ep dd sl ys n2 d2 s2) ⟨ob2, ob, w2⟩)
    (fun _ w2 => wpAny_isSame_ref_other' hne ob ob2 (by simp) w2) (.inr hu) want
theorem eq_list_dict_ {l b : Addr} {ys : Array Value} (hl : IsD s.heap l) (hb : s.heap.IsList b ys) (hu : A.units < cLine) : RcAt A s (.ref b) (.ref l) false := fun prog w E Q want => by
  obtain ⟨⟨c2, d2, t2, s2⟩, ob2, e1, n2, e2⟩ := id hb
  simp only at e1 e2
  subst e1 e2
  have hne : l ≠ b := ne_of_dict (ys := #[]) hl ob2 (by simp)
  obtain ⟨dd, es, ep, sl, ob⟩ := hl
  exact rc_eq_decline_or (k := false) ⟨_, ob2, rfl⟩ ⟨_, ob, rfl⟩ (by decide) F.sub_dict_list F.slot_list_eq F.slot_dict_eq_refl
    (fun _ w2 => call_meets F.slot_list_eq ⟨_, ob2, rfl⟩ F.entry_list_eq (F.args_list_eq_2 _ _) (list_eq_dict b l es ep dd sl ys n2 d2 s2) ⟨ob2, ob, w2⟩)
    (fun _ w2 => call_meets F.slot_dict_eq_refl ⟨_, ob, rfl⟩ F.entry_dict_eq (F.args_dict_eq_2 _ _) (dict_eq_list l b es ep dd sl ys n2 d2 s2) ⟨ob, ob2, w2⟩)
    (fun _ w2 => wpAny_isSame_ref_other' (Ne.symm hne) ob2 ob (by simp) w2) (.inr hu) want
theorem eq_dict_tuple {l b : Addr} {ys : Array Value} (hl : IsD s.heap l) (hb : s.heap.IsTuple b ys) (hu : A.units < cLine) : RcAt A s (.ref l) (.ref b) false := fun prog w E Q want => by
  obtain ⟨⟨c2, d2, t2, s2⟩, ob2, e1, n2, e2⟩ := id hb
  simp only at e1 e2
  subst e1 e2
  have hne : l ≠ b := ne_of_dict (ys := #[]) hl ob2 (by simp)
  obtain ⟨dd, es, ep, sl, ob⟩ := hl
  exact rc_eq_decline_or (k := false) ⟨_, ob, rfl⟩ ⟨_, ob2, rfl⟩ (by decide) F.sub_tuple_dict F.slot_dict_eq F.slot_tuple_eq_refl
    (fun _ w2 => call_meets F.slot_dict_eq ⟨_, ob, rfl⟩ F.entry_dict_eq (F.args_dict_eq_2 _ _) (dict_eq_tuple l b es ep dd sl ys n2 d2 s2) ⟨ob, ob2, w2⟩)
    (fun _ w2 => call_meets F.slot_tuple_eq_refl ⟨_, ob2, rfl⟩ F.entry_tuple_eq (F.args_tuple_eq_2 _ _) (tuple_eq_dict b l es ep dd sl ys n2 d2 s2) ⟨ob2, ob, w2⟩)
    (fun _ w2 => wpAny_isSame_ref_other hne ob ob2 (by simp) w2) (.inr hu) want
theorem eq_tuple_dict_ {l b : Addr} {ys : Array Value} (hl : IsD s.heap l) (hb : s.heap.IsTuple b ys) (hu : A.units < cLine) : RcAt A s (.ref b) (.ref l) false := fun prog w E Q want => by
  obtain ⟨⟨c2, d2, t2, s2⟩, ob2, e1, n2, e2⟩ := id hb
  simp only at e1 e2
  subst e1 e2
  have hne : l ≠ b := ne_of_dict (ys := #[]) hl ob2 (by simp)
  obtain ⟨dd, es, ep, sl, ob⟩ := hl
  exact rc_eq_decline_or (k := false) ⟨_, ob2, rfl⟩ ⟨_, ob, rfl⟩ (by decide) F.sub_dict_tuple F.slot_tuple_eq F.slot_dict_eq_refl
    (fun _ w2 => call_meets F.slot_tuple_eq ⟨_, ob2, rfl⟩ F.entry_tuple_eq (F.args_tuple_eq_2 _ _) (tuple_eq_dict b l es ep dd sl ys n2 d2 s2) ⟨ob2, ob, w2⟩)
    (fun _ w2 => call_meets F.slot_dict_eq_refl ⟨_, ob, rfl⟩ F.entry_dict_eq (F.args_dict_eq_2 _ _) (dict_eq_tuple l b es ep dd sl ys n2 d2 s2) ⟨ob, ob2, w2⟩)
    (fun _ w2 => wpAny_isSame_ref_other' (Ne.symm hne) ob2 ob (by simp) w2) (.inr hu) want
theorem ne_dict_bool {l : Addr} (c : Bool) (hl : IsD s.heap l) (hu : A.units < cLine) : RcNeAt A s (.ref l) (.bool c) true := fun prog w E Q want => by
  obtain ⟨dd, es, ep, sl, ob⟩ := hl
  exact rc_ne_decline_or (k := false) ⟨_, ob, rfl⟩ rfl (by decide) F.sub_bool_dict F.slot_dict_ne F.slot_bool_ne_refl (fun _ w2 => call_meets F.slot_dict_ne ⟨_, ob, rfl⟩ F.entry_dict_ne (F.args_dict_ne_2 _ _) (dict_ne_bool l es ep dd sl c) ⟨ob, w2⟩)
    (fun _ w2 => call_meets F.slot_bool_ne_refl rfl F.entry_int_ne (F.args_int_ne_2 _ _) (bool_ne_dict c l es ep dd sl) ⟨ob, w2⟩)
    (fun _ w2 => wpAny_of_eq (rfl : isSame (.ref l) (.bool c) = pure false) w2) (.inr hu) want
theorem ne_bool_dict_ {l : Addr} (c : Bool) (hl : IsD s.heap l) (hu : A.units < cLine) : RcNeAt A s (.bool c) (.ref l) true := fun prog w E Q want => by
  obtain ⟨dd, es, ep, sl, ob⟩ := hl
  exact rc_ne_decline_or (k := false) rfl ⟨_, ob, rfl⟩ (by decide) F.sub_dict_bool F.slot_bool_ne F.slot_dict_ne_refl
    (fun _ w2 => call_meets F.slot_bool_ne rfl F.entry_int_ne (F.args_int_ne_2 _ _) (bool_ne_dict c l es ep dd sl) ⟨ob, w2⟩)
    (fun _ w2 => call_meets F.slot_dict_ne_refl ⟨_, ob, rfl⟩ F.entry_dict_ne (F.args_dict_ne_2 _ _) (dict_ne_bool l es ep dd sl c) ⟨ob, w2⟩)
    (fun _ w2 => wpAny_of_eq (rfl : isSame (.bool c) (.ref l) = pure false) w2) (.inr hu) want
theorem ne_dict_int {l : Addr} (c : Int) (u : Tok) (hl : IsD s.heap l) (hu : A.units < cLine) : RcNeAt A s (.ref l) (.int c u) true := fun prog w E Q want => by
  obtain ⟨dd, es, ep, sl, ob⟩ := hl
  exact rc_ne_decline_or (k := false) ⟨_, ob, rfl⟩ (typeIs_int s c u) (by decide) F.sub_int_dict F.slot_dict_ne F.slot_int_ne_refl (fun _ w2 => call_meets F.slot_dict_ne ⟨_, ob, rfl⟩ F.entry_dict_ne (F.args_dict_ne_2 _ _) (dict_ne_int l es ep dd sl c u) ⟨ob, w2⟩)
    (fun _ w2 => call_meets F.slot_int_ne_refl (typeIs_int s c u) F.entry_int_ne (F.args_int_ne_2 _ _) (int_ne_dict c u l es ep dd sl) ⟨ob, w2⟩)
    (fun _ w2 => wpAny_of_eq (rfl : isSame (.ref l) (.int c u) = pure false) w2) (.inr hu) want
theorem ne_int_dict_ {l : Addr} (c : Int) (u : Tok) (hl : IsD s.heap l) (hu : A.units < cLine) : RcNeAt A s (.int c u) (.ref l) true := fun prog w E Q want => by
  obtain ⟨dd, es, ep, sl, ob⟩ := hl
  exact rc_ne_decline_or (k := false) (typeIs_int s c u) ⟨_, ob, rfl⟩ (by decide) F.sub_dict_int F.slot_int_ne F.slot_dict_ne_refl
    (fun _ w2 => call_meets F.slot_int_ne (typeIs_int s c u) F.entry_int_ne (F.args_int_ne_2 _ _) (int_ne_dict c u l es ep dd sl) ⟨ob, w2⟩)
    (fun _ w2 => call_meets F.slot_dict_ne_refl ⟨_, ob, rfl⟩ F.entry_dict_ne (F.args_dict_ne_2 _ _) (dict_ne_int l es ep dd sl c u) ⟨ob, w2⟩)
    (fun _ w2 => wpAny_of_eq (rfl : isSame (.int c u) (.ref l) = pure false) w2) (.inr hu) want
theorem ne_dict_str {l : Addr} (c : Str) (u : Tok) (hl : IsD s.heap l) (hu : A.units < cLine) : RcNeAt A s (.ref l) (.str c u) true := fun prog w E Q want => by
  obtain ⟨dd, es, ep, sl, ob⟩ := hl
  exact rc_ne_decline_or (k := false) ⟨_, ob, rfl⟩ (typeIs_str s c u) (by decide) F.sub_str_dict F.slot_dict_ne F.slot_str_ne_refl (fun _ w2 => call_meets F.slot_dict_ne ⟨_, ob, rfl⟩ F.entry_dict_ne (F.args_dict_ne_2 _ _) (dict_ne_str l es ep dd sl c u) ⟨ob, w2⟩)
    (fun _ w2 => call_meets F.slot_str_ne_refl (typeIs_str s c u) F.entry_str_ne (F.args_str_ne_2 _ _) (str_ne_dict c u l es ep dd sl) ⟨ob, w2⟩)
    (fun _ w2 => wpAny_of_eq (rfl : isSame (.ref l) (.str c u) = pure false) w2) (.inr hu) want
theorem ne_str_dict_ {l : Addr} (c : Str) (u : Tok) (hl : IsD s.heap l) (hu : A.units < cLine) : RcNeAt A s (.str c u) (.ref l) true := fun prog w E Q want => by
  obtain ⟨dd, es, ep, sl, ob⟩ := hl
  exact rc_ne_decline_or (k := false) (typeIs_str s c u) ⟨_, ob, rfl⟩ (by decide) F.sub_dict_str F.slot_str_ne F.slot_dict_ne_refl
    (fun _ w2 => call_meets F.slot_str_ne (typeIs_str s c u) F.entry_str_ne (F.args_str_ne_2 _ _) (str_ne_dict c u l es ep dd sl) ⟨ob, w2⟩)
    (fun _ w2 => call_meets F.slot_dict_ne_refl ⟨_, ob, rfl⟩ F.entry_dict_ne (F.args_dict_ne_2 _ _) (dict_ne_str l es ep dd sl c u) ⟨ob, w2⟩)
    (fun _ w2 => wpAny_of_eq (rfl : isSame (.str c u) (.ref l) = pure false) w2) (.inr hu) want
theorem ne_dict_none {l : Addr}  (hl : IsD s.heap l) (hu : A.units < cLine) : RcNeAt A s (.ref l) (.none) true := fun prog w E Q want => by
  obtain ⟨dd, es, ep, sl, ob⟩ := hl
  exact rc_ne_decline_or (k := false) ⟨_, ob, rfl⟩ rfl (by decide) F.sub_NoneType_dict F.slot_dict_ne F.slot_NoneType_ne_refl (fun _ w2 => call_meets F.slot_dict_ne ⟨_, ob, rfl⟩ F.entry_dict_ne (F.args_dict_ne_2 _ _) (dict_ne_none l es ep dd sl ) ⟨ob, w2⟩)
    (fun _ w2 => call_gives F.slot_NoneType_ne_refl rfl F.entry_NoneType_ne (F.args_NoneType_ne_2 _ _) (NoneType___ne___none_ref_0 l) w2)
    (fun _ w2 => wpAny_of_eq (rfl : isSame (.ref l) (.none) = pure false) w2) (.inr hu) want
theorem ne_none_dict_ {l : Addr}  (hl : IsD s.heap l) (hu : A.units < cLine) : RcNeAt A s (.none) (.ref l) true := fun prog w E Q want => by
  obtain ⟨dd, es, ep, sl, ob⟩ := hl
  exact rc_ne_decline_or (k := false) rfl ⟨_, ob, rfl⟩ (by decide) F.sub_dict_NoneType F.slot_NoneType_ne F.slot_dict_ne_refl
    (fun _ w2 => call_gives F.slot_NoneType_ne rfl F.entry_NoneType_ne (F.args_NoneType_ne_2 _ _) (NoneType___ne___none_ref_0 l) w2)
    (fun _ w2 => call_meets F.slot_dict_ne_refl ⟨_, ob, rfl⟩ F.entry_dict_ne (F.args_dict_ne_2 _ _) (dict_ne_none l es ep dd sl ) ⟨ob, w2⟩)
    (fun _ w2 => wpAny_of_eq (rfl : isSame (.none) (.ref l) = pure false) w2) (.inr hu) want
theorem ne_dict_list {l b : Addr} {ys : Array Value} (hl : IsD s.heap l) (hb : s.heap.IsList b ys) (hu : A.units < cLine) : RcNeAt A s (.ref l) (.ref b) true := fun prog w E Q want => by
  obtain ⟨⟨c2, d2, t2, s2⟩, ob2, e1, n2, e2⟩ := id hb
  simp only at e1 e2
  subst e1 e2
  have hne : l ≠ b := ne_of_dict (ys := #[]) hl ob2 (by simp)
  obtain ⟨dd, es, ep, sl, ob⟩ := hl
  exact rc_ne_decline_or (k := false) ⟨_, ob, rfl⟩ ⟨_, ob2, rfl⟩ (by decide) F.sub_list_dict F.slot_dict_ne F.slot_list_ne_refl
    (fun _ w2 => call_meets F.slot_dict_ne ⟨_, ob, rfl⟩ F.entry_dict_ne (F.args_dict_ne_2 _ _) (dict_ne_list l b es ep dd sl ys n2 d2 s2) ⟨ob, ob2, w2⟩)
    (fun _ w2 => call_meets F.slot_list_ne_refl ⟨_, ob2, rfl⟩ F.entry_list_ne (F.args_list_ne_2 _ _) (list_ne_dict b l es ep dd sl ys n2 d2 s2) ⟨ob2, ob, w2⟩)
    (fun _ w2 => wpAny_isSame_ref_other' hne ob ob2 (by simp) w2) (.inr hu) want
theorem ne_list_dict_ {l b : Addr} {ys : Array Value} (hl : IsD s.heap l) (hb : s.heap.IsList b ys) (hu : A.units < cLine) : RcNeAt A s (.ref b) (.ref l) true := fun prog w E Q want => by
  obtain ⟨⟨c2, d2, t2, s2⟩, ob2, e1, n2, e2⟩ := id hb
  simp only at e1 e2
  subst e1 e2
  have hne : l ≠ b := ne_of_dict (ys := #[]) hl ob2 (by simp)
  obtain ⟨dd, es, ep, sl, ob⟩ := hl
  exact rc_ne_decline_or (k := false) ⟨_, ob2, rfl⟩ ⟨_, ob, rfl⟩ (by decide) F.sub_dict_list F.slot_list_ne F.slot_dict_ne_refl
    (fun _ w2 => call_meets F.slot_list_ne ⟨_, ob2, rfl⟩ F.entry_list_ne (F.args_list_ne_2 _ _) (list_ne_dict b l es ep dd sl ys n2 d2 s2) ⟨ob2, ob, w2⟩)
    (fun _ w2 => call_meets F.slot_dict_ne_refl ⟨_, ob, rfl⟩ F.entry_dict_ne (F.args_dict_ne_2 _ _) (dict_ne_list l b es ep dd sl ys n2 d2 s2) ⟨ob, ob2, w2⟩)
    (fun _ w2 => wpAny_isSame_ref_other' (Ne.symm hne) ob2 ob (by simp) w2) (.inr hu) want
theorem ne_dict_tuple {l b : Addr} {ys : Array Value} (hl : IsD s.heap l) (hb : s.heap.IsTuple b ys) (hu : A.units < cLine) : RcNeAt A s (.ref l) (.ref b) true := fun prog w E Q want => by
  obtain ⟨⟨c2, d2, t2, s2⟩, ob2, e1, n2, e2⟩ := id hb
  simp only at e1 e2
  subst e1 e2
  have hne : l ≠ b := ne_of_dict (ys := #[]) hl ob2 (by simp)
  obtain ⟨dd, es, ep, sl, ob⟩ := hl
  exact rc_ne_decline_or (k := false) ⟨_, ob, rfl⟩ ⟨_, ob2, rfl⟩ (by decide) F.sub_tuple_dict F.slot_dict_ne F.slot_tuple_ne_refl
    (fun _ w2 => call_meets F.slot_dict_ne ⟨_, ob, rfl⟩ F.entry_dict_ne (F.args_dict_ne_2 _ _) (dict_ne_tuple l b es ep dd sl ys n2 d2 s2) ⟨ob, ob2, w2⟩)
    (fun _ w2 => call_meets F.slot_tuple_ne_refl ⟨_, ob2, rfl⟩ F.entry_tuple_ne (F.args_tuple_ne_2 _ _) (tuple_ne_dict b l es ep dd sl ys n2 d2 s2) ⟨ob2, ob, w2⟩)
    (fun _ w2 => wpAny_isSame_ref_other hne ob ob2 (by simp) w2) (.inr hu) want
theorem ne_tuple_dict_ {l b : Addr} {ys : Array Value} (hl : IsD s.heap l) (hb : s.heap.IsTuple b ys) (hu : A.units < cLine) : RcNeAt A s (.ref b) (.ref l) true := fun prog w E Q want => by
  obtain ⟨⟨c2, d2, t2, s2⟩, ob2, e1, n2, e2⟩ := id hb
  simp only at e1 e2
  subst e1 e2
  have hne : l ≠ b := ne_of_dict (ys := #[]) hl ob2 (by simp)
  obtain ⟨dd, es, ep, sl, ob⟩ := hl
  exact rc_ne_decline_or (k := false) ⟨_, ob2, rfl⟩ ⟨_, ob, rfl⟩ (by decide) F.sub_dict_tuple F.slot_tuple_ne F.slot_dict_ne_refl
    (fun _ w2 => call_meets F.slot_tuple_ne ⟨_, ob2, rfl⟩ F.entry_tuple_ne (F.args_tuple_ne_2 _ _) (tuple_ne_dict b l es ep dd sl ys n2 d2 s2) ⟨ob2, ob, w2⟩)
    (fun _ w2 => call_meets F.slot_dict_ne_refl ⟨_, ob, rfl⟩ F.entry_dict_ne (F.args_dict_ne_2 _ _) (dict_ne_tuple l b es ep dd sl ys n2 d2 s2) ⟨ob, ob2, w2⟩)
    (fun _ w2 => wpAny_isSame_ref_other' (Ne.symm hne) ob2 ob (by simp) w2) (.inr hu) want
theorem at_dict_bool {l : Addr} (c : Bool) (hl : IsD s.heap l) (hu : A.units < cLine) : EqAt A s (.ref l) (.bool c) false := fun prog w E Q want => by
  unfold eqBool
  refine wpAny_holding ?_
  refine wpAny_ite_split (fun same => absurd (eq_of_beq same) nofun) (fun _ => ?_)
  exact wpAny_bind (eq_dict_bool c hl hu prog w E _ (wpAny_truthy_bool want))
theorem at_bool_dict {l : Addr} (c : Bool) (hl : IsD s.heap l) (hu : A.units < cLine) : EqAt A s (.bool c) (.ref l) false := fun prog w E Q want => by
  unfold eqBool
  refine wpAny_holding ?_
  refine wpAny_ite_split (fun same => absurd (eq_of_beq same) nofun) (fun _ => ?_)
  exact wpAny_bind (eq_bool_dict_ c hl hu prog w E _ (wpAny_truthy_bool want))
theorem at_dict_int {l : Addr} (c : Int) (u : Tok) (hl : IsD s.heap l) (hu : A.units < cLine) : EqAt A s (.ref l) (.int c u) false := fun prog w E Q want => by
  unfold eqBool
  refine wpAny_holding ?_
  refine wpAny_ite_split (fun same => absurd (eq_of_beq same) nofun) (fun _ => ?_)
  exact wpAny_bind (eq_dict_int c u hl hu prog w E _ (wpAny_truthy_bool want))
theorem at_int_dict {l : Addr} (c : Int) (u : Tok) (hl : IsD s.heap l) (hu : A.units < cLine) : EqAt A s (.int c u) (.ref l) false := fun prog w E Q want => by
  unfold eqBool
  refine wpAny_holding ?_
  refine wpAny_ite_split (fun same => absurd (eq_of_beq same) nofun) (fun _ => ?_)
  exact wpAny_bind (eq_int_dict_ c u hl hu prog w E _ (wpAny_truthy_bool want))
theorem at_dict_str {l : Addr} (c : Str) (u : Tok) (hl : IsD s.heap l) (hu : A.units < cLine) : EqAt A s (.ref l) (.str c u) false := fun prog w E Q want => by
  unfold eqBool
  refine wpAny_holding ?_
  refine wpAny_ite_split (fun same => absurd (eq_of_beq same) nofun) (fun _ => ?_)
  exact wpAny_bind (eq_dict_str c u hl hu prog w E _ (wpAny_truthy_bool want))
theorem at_str_dict {l : Addr} (c : Str) (u : Tok) (hl : IsD s.heap l) (hu : A.units < cLine) : EqAt A s (.str c u) (.ref l) false := fun prog w E Q want => by
  unfold eqBool
  refine wpAny_holding ?_
  refine wpAny_ite_split (fun same => absurd (eq_of_beq same) nofun) (fun _ => ?_)
  exact wpAny_bind (eq_str_dict_ c u hl hu prog w E _ (wpAny_truthy_bool want))
theorem at_dict_none {l : Addr}  (hl : IsD s.heap l) (hu : A.units < cLine) : EqAt A s (.ref l) (.none) false := fun prog w E Q want => by
  unfold eqBool
  refine wpAny_holding ?_
  refine wpAny_ite_split (fun same => absurd (eq_of_beq same) nofun) (fun _ => ?_)
  exact wpAny_bind (eq_dict_none  hl hu prog w E _ (wpAny_truthy_bool want))
theorem at_none_dict {l : Addr}  (hl : IsD s.heap l) (hu : A.units < cLine) : EqAt A s (.none) (.ref l) false := fun prog w E Q want => by
  unfold eqBool
  refine wpAny_holding ?_
  refine wpAny_ite_split (fun same => absurd (eq_of_beq same) nofun) (fun _ => ?_)
  exact wpAny_bind (eq_none_dict_  hl hu prog w E _ (wpAny_truthy_bool want))
theorem apart_list {l b : Addr} {ys : Array Value} (hl : IsD s.heap l) (hb : s.heap.IsList b ys) : l ≠ b := by
  obtain ⟨o2, ob2, e1, _⟩ := hb
  exact ne_of_dict (ys := #[]) hl ob2 (by rw [e1]; simp)
theorem at_dict_list {l b : Addr} {ys : Array Value} (hl : IsD s.heap l) (hb : s.heap.IsList b ys) (hu : A.units < cLine) : EqAt A s (.ref l) (.ref b) false := .of_refs (apart_list hl hb) (eq_dict_list hl hb hu)
theorem at_list_dict {l b : Addr} {ys : Array Value} (hl : IsD s.heap l) (hb : s.heap.IsList b ys) (hu : A.units < cLine) : EqAt A s (.ref b) (.ref l) false := .of_refs (Ne.symm (apart_list hl hb)) (eq_list_dict_ hl hb hu)
theorem apart_tuple {l b : Addr} {ys : Array Value} (hl : IsD s.heap l) (hb : s.heap.IsTuple b ys) : l ≠ b := by
  obtain ⟨o2, ob2, e1, _⟩ := hb
  exact ne_of_dict (ys := #[]) hl ob2 (by rw [e1]; simp)
theorem at_dict_tuple {l b : Addr} {ys : Array Value} (hl : IsD s.heap l) (hb : s.heap.IsTuple b ys) (hu : A.units < cLine) : EqAt A s (.ref l) (.ref b) false := .of_refs (apart_tuple hl hb) (eq_dict_tuple hl hb hu)
theorem at_tuple_dict {l b : Addr} {ys : Array Value} (hl : IsD s.heap l) (hb : s.heap.IsTuple b ys) (hu : A.units < cLine) : EqAt A s (.ref b) (.ref l) false := .of_refs (Ne.symm (apart_tuple hl hb)) (eq_tuple_dict_ hl hb hu)
end
end Pz

namespace Pz
open PySem PySem.Spec PyProof.Rows L2 MeetsSeq SeqAt
mutual
/-- no dict but empty ones -/
def pl0 : PyData → Bool
  | .list ds | .tuple ds => pl0s ds
  | .dict kvs => kvs.isEmpty
  | _ => true
def pl0s : List PyData → Bool
  | [] => true
  | d :: ds => pl0 d && pl0s ds
end
mutual
theorem pl0_plain : ∀ d : PyData, d.plain = true → pl0 d = true
  | .none, _ | .bool _, _ | .int _, _ | .str _, _ => rfl
  | .list ds, h => pl0s_plain ds h
  | .tuple ds, h => pl0s_plain ds h
  | .dict _, h => nomatch h
theorem pl0s_plain : ∀ ds : List PyData, PyData.plainAll ds = true → pl0s ds = true
  | [], _ => rfl
  | d :: ds, h => by
    simp only [PyData.plainAll, Bool.and_eq_true] at h
    simp only [pl0s, pl0_plain d h.1, pl0s_plain ds h.2, Bool.and_self]
end
/-- which pairs are compared: dicts on one side at most -/
def Cm (d e : PyData) : Prop := (pl0 d = true ∧ e.plain = true) ∨ (d.plain = true ∧ pl0 e = true)
def Cms (ds es : List PyData) : Prop := (pl0s ds = true ∧ PyData.plainAll es = true) ∨ (PyData.plainAll ds = true ∧ pl0s es = true)
theorem Cms.head {d e : PyData} {ds es : List PyData} (h : Cms (d :: ds) (e :: es)) : Cm d e ∧ Cms ds es := by
  simp only [Cms, pl0s, PyData.plainAll, Bool.and_eq_true] at h
  rcases h with ⟨⟨a, b⟩, c, d⟩ | ⟨⟨a, b⟩, c, d⟩
  · exact ⟨.inl ⟨a, c⟩, .inl ⟨b, d⟩⟩
  · exact ⟨.inr ⟨a, c⟩, .inr ⟨b, d⟩⟩
theorem isD_of {hp : Heap} {l : Addr} {o : Obj} {es : Array DictEntry} {ep : Nat} (h : hp.get? l = some o) (hc : o.cls = .type "dict") (hd : o.data = .dict es ep) : IsD hp l := by
  obtain ⟨c, dd, dt, sl⟩ := o
  simp only at hc hd
  subst hc hd
  exact ⟨dd, es, ep, sl, h⟩
theorem same_data {hp : Heap} {v : Value} {d e : PyData} {as bs : List Addr} (h : d.plain = true ∨ e.plain = true) (r1 : Reads hp v d as) (r2 : Reads hp v e bs) : d = e := by
  rcases h with h | h
  · exact plain_unique d e v as bs h r1 r2
  · exact (plain_unique e d v bs as h r2 r1).symm
theorem Cm.one {d e : PyData} (h : Cm d e) : d.plain = true ∨ e.plain = true := h.elim (fun q => .inr q.2) fun q => .inl q.1
mutual
theorem at_d : ∀ (da db : PyData) (A : Around) (s : Shared) (a b : Value) (as bs : List Addr), Reads s.heap a da as → Reads s.heap b db bs → Cm da db →
    A.units + min da.depth db.depth < cLine → EqAt A s a b (PyData.eqv da db)
  | .none, _, A, s, _, _, _, _, ra, rb, cm, hu => by
    cases ra
    cases rb with
    | none => exact EqAt.same _
    | bool y => exact EqAt.none_bool y
    | int y u => exact EqAt.none_int y u
    | str y u => exact EqAt.none_str y u
    | list q1 q2 q3 q4 => exact EqAt.none_list ⟨_, q1, q2, _, q3⟩ (room_here hu)
    | tuple q1 q2 q3 q4 => exact EqAt.none_tuple ⟨_, q1, q2, _, q3⟩ (room_here hu)
    | dict q1 q2 q3 _ _ => exact at_none_dict (isD_of q1 q2 q3) (room_here hu)
  | .bool x, _, A, s, _, _, _, _, ra, rb, cm, hu => by
    cases ra
    cases rb with
    | none => exact EqAt.bool_none x
    | bool y => exact EqAt.bool_bool x y
    | int y u => exact EqAt.bool_int x y u
    | str y u => exact EqAt.bool_str x y u
    | list q1 q2 q3 q4 => exact EqAt.bool_list x ⟨_, q1, q2, _, q3⟩ (room_here hu)
    | tuple q1 q2 q3 q4 => exact EqAt.bool_tuple x ⟨_, q1, q2, _, q3⟩ (room_here hu)
    | dict q1 q2 q3 _ _ => exact at_bool_dict x (isD_of q1 q2 q3) (room_here hu)
  | .int x, _, A, s, _, _, _, _, ra, rb, cm, hu => by
    cases ra with
    | int _ t =>
      cases rb with
      | none => exact EqAt.int_none x t
      | bool y => exact EqAt.int_bool x t y
      | int y u => exact EqAt.int_int x t y u
      | str y u => exact EqAt.int_str x t y u
      | list q1 q2 q3 q4 => exact EqAt.int_list x t ⟨_, q1, q2, _, q3⟩ (room_here hu)
      | tuple q1 q2 q3 q4 => exact EqAt.int_tuple x t ⟨_, q1, q2, _, q3⟩ (room_here hu)
      | dict q1 q2 q3 _ _ => exact at_int_dict x t (isD_of q1 q2 q3) (room_here hu)
  | .str x, _, A, s, _, _, _, _, ra, rb, cm, hu => by
    cases ra with
    | str _ t =>
      cases rb with
      | none => exact EqAt.str_none x t
      | bool y => exact EqAt.str_bool x t y
      | int y u => exact EqAt.str_int x t y u
      | str y u => exact EqAt.str_str x t y u
      | list q1 q2 q3 q4 => exact EqAt.str_list x t ⟨_, q1, q2, _, q3⟩ (room_here hu)
      | tuple q1 q2 q3 q4 => exact EqAt.str_tuple x t ⟨_, q1, q2, _, q3⟩ (room_here hu)
      | dict q1 q2 q3 _ _ => exact at_str_dict x t (isD_of q1 q2 q3) (room_here hu)
  | .list xs, db, A, s, _, _, _, _, ra, rb, cm, hu => by
    cases ra with
    | @list l o vs n _ as₁ p1 p2 p3 p4 =>
      have hL : s.heap.IsList l vs := ⟨_, p1, p2, _, p3⟩
      cases rb with
      | none => exact EqAt.list_none hL (room_here hu)
      | bool y => exact EqAt.list_bool y hL (room_here hu)
      | int y u => exact EqAt.list_int y u hL (room_here hu)
      | str y u => exact EqAt.list_str y u hL (room_here hu)
      | tuple q1 q2 q3 q4 => exact EqAt.list_tuple hL ⟨_, q1, q2, _, q3⟩ (room_here hu)
      | dict q1 q2 q3 _ _ => exact at_list_dict (isD_of q1 q2 q3) hL (room_here hu)
      | @list l2 o2 ws n2 ys bs₁ q1 q2 q3 q4 =>
        have hR : s.heap.IsList l2 ws := ⟨_, q1, q2, _, q3⟩
        have z1 : vs.size = xs.length := by simpa using ReadsAll.length _ _ _ p4
        have z2 : ws.size = ys.length := by simpa using ReadsAll.length _ _ _ q4
        have cms : Cms xs ys := cm
        show EqAt A s (.ref l) (.ref l2) (PyData.eqvAll xs ys)
        by_cases one : l = l2
        · subst one
          have e : PyData.list xs = PyData.list ys := same_data cm.one (.list p1 p2 p3 p4) (.list q1 q2 q3 q4)
          injection e with e
          subst e
          rw [eqvAll_refl_plain xs (by rcases cm.one with z | z <;> exact z)]
          exact EqAt.same _
        · by_cases hsz : vs.size = ws.size
          · rw [← eqvAll_same_length (by omega : xs.length = ys.length), ← z1]
            refine EqAt.of_refs one (RcAt.lists hL hR hsz (room_here hu) fun j j1 j2 => ?_)
            have e := at_ds xs ys A.in1 s vs.toList ws.toList _ _ p4 q4 cms (room_in hu) j (by simpa using j1) (by simpa using j2)
            simpa using e
          · rw [eqvAll_other_length (by omega : xs.length ≠ ys.length)]
            exact EqAt.of_refs one (RcAt.lists_lengths hL hR (by simpa using hsz) (room_here hu))
  | .tuple xs, db, A, s, _, _, _, _, ra, rb, cm, hu => by
    cases ra with
    | @tuple l o vs n _ as₁ p1 p2 p3 p4 =>
      have hL : s.heap.IsTuple l vs := ⟨_, p1, p2, _, p3⟩
      cases rb with
      | none => exact EqAt.tuple_none hL (room_here hu)
      | bool y => exact EqAt.tuple_bool y hL (room_here hu)
      | int y u => exact EqAt.tuple_int y u hL (room_here hu)
      | str y u => exact EqAt.tuple_str y u hL (room_here hu)
      | list q1 q2 q3 q4 => exact EqAt.tuple_list hL ⟨_, q1, q2, _, q3⟩ (room_here hu)
      | dict q1 q2 q3 _ _ => exact at_tuple_dict (isD_of q1 q2 q3) hL (room_here hu)
      | @tuple l2 o2 ws n2 ys bs₁ q1 q2 q3 q4 =>
        have hR : s.heap.IsTuple l2 ws := ⟨_, q1, q2, _, q3⟩
        have z1 : vs.size = xs.length := by simpa using ReadsAll.length _ _ _ p4
        have z2 : ws.size = ys.length := by simpa using ReadsAll.length _ _ _ q4
        have cms : Cms xs ys := cm
        show EqAt A s (.ref l) (.ref l2) (PyData.eqvAll xs ys)
        by_cases one : l = l2
        · subst one
          have e : PyData.tuple xs = PyData.tuple ys := same_data cm.one (.tuple p1 p2 p3 p4) (.tuple q1 q2 q3 q4)
          injection e with e
          subst e
          rw [eqvAll_refl_plain xs (by rcases cm.one with z | z <;> exact z)]
          exact EqAt.same _
        · rw [← eqvAll_eq xs ys, ← z1, ← z2]
          refine EqAt.of_refs one (RcAt.tuples hL hR (room_here hu) fun j j1 j2 => ?_)
          have e := at_ds xs ys A.in1 s vs.toList ws.toList _ _ p4 q4 cms (room_in hu) j (by simpa using j1) (by simpa using j2)
          simpa using e
  | .dict kv, db, A, s, _, _, _, _, ra, rb, cm, hu => by
    cases ra with
    | dict p1 p2 p3 _ _ =>
      have hD := isD_of p1 p2 p3
      cases rb with
      | none => exact at_dict_none hD (room_here hu)
      | bool y => exact at_dict_bool y hD (room_here hu)
      | int y u => exact at_dict_int y u hD (room_here hu)
      | str y u => exact at_dict_str y u hD (room_here hu)
      | list q1 q2 q3 q4 => exact at_dict_list hD ⟨_, q1, q2, _, q3⟩ (room_here hu)
      | tuple q1 q2 q3 q4 => exact at_dict_tuple hD ⟨_, q1, q2, _, q3⟩ (room_here hu)
      | dict => rcases cm with ⟨_, z⟩ | ⟨z, _⟩ <;> exact nomatch z
theorem at_ds : ∀ (xs ys : List PyData) (A : Around) (s : Shared) (vs ws : List Value) (as bs : List Addr), ReadsAll s.heap vs xs as → ReadsAll s.heap ws ys bs → Cms xs ys →
    A.units + min (PyData.depthAll xs) (PyData.depthAll ys) < cLine → ∀ j (h1 : j < vs.length) (h2 : j < ws.length), EqAt A s vs[j] ws[j] (pairEq xs ys j)
  | [], _, _, _, _, _, _, _, ra, _, _, _, j, h1, _ => by cases ra; exact absurd h1 (Nat.not_lt_zero _)
  | _ :: _, [], _, _, _, _, _, _, _, rb, _, _, j, _, h2 => by cases rb; exact absurd h2 (Nat.not_lt_zero _)
  | x :: xs, y :: ys, A, s, _, _, _, _, ra, rb, cm, hu, j, h1, h2 => by
    cases ra with
    | cons r rs =>
      cases rb with
      | cons r2 rs2 =>
        cases j with
        | zero => exact at_d x y A s _ _ _ _ r r2 cm.head.1 (room_head hu)
        | succ j => exact at_ds xs ys A s _ _ _ _ rs rs2 cm.head.2 (room_tail hu) j (Nat.lt_of_succ_lt_succ h1) (Nat.lt_of_succ_lt_succ h2)
end
theorem eq_d {da db : PyData} {A : Around} {s : Shared} {a b : Value} {as bs : List Addr} (ra : Reads s.heap a da as) (rb : Reads s.heap b db bs) (cm : Cm da db) (hu : A.units + min da.depth db.depth < cLine) : RcAt A s a b (PyData.eqv da db) := by
  cases ra with
  | none =>
    cases rb with
    | none => exact RcAt.none_none
    | bool y => exact RcAt.none_bool y
    | int y u => exact RcAt.none_int y u
    | str y u => exact RcAt.none_str y u
    | list q1 q2 q3 q4 => exact RcAt.none_list ⟨_, q1, q2, _, q3⟩ (room_here hu)
    | tuple q1 q2 q3 q4 => exact RcAt.none_tuple ⟨_, q1, q2, _, q3⟩ (room_here hu)
    | dict q1 q2 q3 _ _ => exact eq_none_dict_ (isD_of q1 q2 q3) (room_here hu)
  | bool x =>
    cases rb with
    | none => exact RcAt.bool_none x
    | bool y => exact RcAt.bool_bool x y
    | int y u => exact RcAt.bool_int x y u
    | str y u => exact RcAt.bool_str x y u
    | list q1 q2 q3 q4 => exact RcAt.bool_list x ⟨_, q1, q2, _, q3⟩ (room_here hu)
    | tuple q1 q2 q3 q4 => exact RcAt.bool_tuple x ⟨_, q1, q2, _, q3⟩ (room_here hu)
    | dict q1 q2 q3 _ _ => exact eq_bool_dict_ x (isD_of q1 q2 q3) (room_here hu)
  | int x t =>
    cases rb with
    | none => exact RcAt.int_none x t
    | bool y => exact RcAt.int_bool x t y
    | int y u => exact RcAt.int_int x t y u
    | str y u => exact RcAt.int_str x t y u
    | list q1 q2 q3 q4 => exact RcAt.int_list x t ⟨_, q1, q2, _, q3⟩ (room_here hu)
    | tuple q1 q2 q3 q4 => exact RcAt.int_tuple x t ⟨_, q1, q2, _, q3⟩ (room_here hu)
    | dict q1 q2 q3 _ _ => exact eq_int_dict_ x t (isD_of q1 q2 q3) (room_here hu)
  | str x t =>
    cases rb with
    | none => exact RcAt.str_none x t
    | bool y => exact RcAt.str_bool x t y
    | int y u => exact RcAt.str_int x t y u
    | str y u => exact RcAt.str_str x t y u
    | list q1 q2 q3 q4 => exact RcAt.str_list x t ⟨_, q1, q2, _, q3⟩ (room_here hu)
    | tuple q1 q2 q3 q4 => exact RcAt.str_tuple x t ⟨_, q1, q2, _, q3⟩ (room_here hu)
    | dict q1 q2 q3 _ _ => exact eq_str_dict_ x t (isD_of q1 q2 q3) (room_here hu)
  | @list l o vs n xs as₁ p1 p2 p3 p4 =>
    have hL : s.heap.IsList l vs := ⟨_, p1, p2, _, p3⟩
    cases rb with
    | none => exact RcAt.list_none hL (room_here hu)
    | bool y => exact RcAt.list_bool y hL (room_here hu)
    | int y u => exact RcAt.list_int y u hL (room_here hu)
    | str y u => exact RcAt.list_str y u hL (room_here hu)
    | tuple q1 q2 q3 q4 => exact RcAt.list_tuple hL ⟨_, q1, q2, _, q3⟩ (room_here hu)
    | dict q1 q2 q3 _ _ => exact eq_list_dict_ (isD_of q1 q2 q3) hL (room_here hu)
    | @list l2 o2 ws n2 ys bs₁ q1 q2 q3 q4 =>
      have hR : s.heap.IsList l2 ws := ⟨_, q1, q2, _, q3⟩
      have z1 : vs.size = xs.length := by simpa using ReadsAll.length _ _ _ p4
      have z2 : ws.size = ys.length := by simpa using ReadsAll.length _ _ _ q4
      have each : ∀ j (j1 : j < vs.size) (j2 : j < ws.size), EqAt A.in1 s vs[j] ws[j] (pairEq xs ys j) := fun j j1 j2 => by
        have e := at_ds xs ys A.in1 s vs.toList ws.toList _ _ p4 q4 cm (room_in hu) j (by simpa using j1) (by simpa using j2)
        simpa using e
      show RcAt A s (.ref l) (.ref l2) (PyData.eqvAll xs ys)
      by_cases hsz : vs.size = ws.size
      · rw [← eqvAll_same_length (by omega : xs.length = ys.length), ← z1]
        exact RcAt.lists hL hR hsz (room_here hu) each
      · rw [eqvAll_other_length (by omega : xs.length ≠ ys.length)]
        exact RcAt.lists_lengths hL hR (by simpa using hsz) (room_here hu)
  | @tuple l o vs n xs as₁ p1 p2 p3 p4 =>
    have hL : s.heap.IsTuple l vs := ⟨_, p1, p2, _, p3⟩
    cases rb with
    | none => exact RcAt.tuple_none hL (room_here hu)
    | bool y => exact RcAt.tuple_bool y hL (room_here hu)
    | int y u => exact RcAt.tuple_int y u hL (room_here hu)
    | str y u => exact RcAt.tuple_str y u hL (room_here hu)
    | list q1 q2 q3 q4 => exact RcAt.tuple_list hL ⟨_, q1, q2, _, q3⟩ (room_here hu)
    | dict q1 q2 q3 _ _ => exact eq_tuple_dict_ (isD_of q1 q2 q3) hL (room_here hu)
    | @tuple l2 o2 ws n2 ys bs₁ q1 q2 q3 q4 =>
      have hR : s.heap.IsTuple l2 ws := ⟨_, q1, q2, _, q3⟩
      have z1 : vs.size = xs.length := by simpa using ReadsAll.length _ _ _ p4
      have z2 : ws.size = ys.length := by simpa using ReadsAll.length _ _ _ q4
      have each : ∀ j (j1 : j < vs.size) (j2 : j < ws.size), EqAt A.in1 s vs[j] ws[j] (pairEq xs ys j) := fun j j1 j2 => by
        have e := at_ds xs ys A.in1 s vs.toList ws.toList _ _ p4 q4 cm (room_in hu) j (by simpa using j1) (by simpa using j2)
        simpa using e
      show RcAt A s (.ref l) (.ref l2) (PyData.eqvAll xs ys)
      rw [← eqvAll_eq xs ys, ← z1, ← z2]
      exact RcAt.tuples hL hR (room_here hu) each
  | dict p1 p2 p3 _ _ =>
    have hD := isD_of p1 p2 p3
    cases rb with
    | none => exact eq_dict_none hD (room_here hu)
    | bool y => exact eq_dict_bool y hD (room_here hu)
    | int y u => exact eq_dict_int y u hD (room_here hu)
    | str y u => exact eq_dict_str y u hD (room_here hu)
    | list q1 q2 q3 q4 => exact eq_dict_list hD ⟨_, q1, q2, _, q3⟩ (room_here hu)
    | tuple q1 q2 q3 q4 => exact eq_dict_tuple hD ⟨_, q1, q2, _, q3⟩ (room_here hu)
    | dict => rcases cm with ⟨_, z⟩ | ⟨z, _⟩ <;> exact nomatch z
theorem ne_d {da db : PyData} {A : Around} {s : Shared} {a b : Value} {as bs : List Addr} (ra : Reads s.heap a da as) (rb : Reads s.heap b db bs) (cm : Cm da db) (hu : A.units + min da.depth db.depth < cLine) : RcNeAt A s a b (!PyData.eqv da db) := by
  cases ra with
  | none =>
    cases rb with
    | none => exact RcNeAt.none_none
    | bool y => exact RcNeAt.none_bool y
    | int y u => exact RcNeAt.none_int y u
    | str y u => exact RcNeAt.none_str y u
    | list q1 q2 q3 q4 => exact RcNeAt.none_list ⟨_, q1, q2, _, q3⟩ (room_here hu)
    | tuple q1 q2 q3 q4 => exact RcNeAt.none_tuple ⟨_, q1, q2, _, q3⟩ (room_here hu)
    | dict q1 q2 q3 _ _ => exact ne_none_dict_ (isD_of q1 q2 q3) (room_here hu)
  | bool x =>
    cases rb with
    | none => exact RcNeAt.bool_none x
    | bool y => exact RcNeAt.bool_bool x y
    | int y u => exact RcNeAt.bool_int x y u
    | str y u => exact RcNeAt.bool_str x y u
    | list q1 q2 q3 q4 => exact RcNeAt.bool_list x ⟨_, q1, q2, _, q3⟩ (room_here hu)
    | tuple q1 q2 q3 q4 => exact RcNeAt.bool_tuple x ⟨_, q1, q2, _, q3⟩ (room_here hu)
    | dict q1 q2 q3 _ _ => exact ne_bool_dict_ x (isD_of q1 q2 q3) (room_here hu)
  | int x t =>
    cases rb with
    | none => exact RcNeAt.int_none x t
    | bool y => exact RcNeAt.int_bool x t y
    | int y u => exact RcNeAt.int_int x t y u
    | str y u => exact RcNeAt.int_str x t y u
    | list q1 q2 q3 q4 => exact RcNeAt.int_list x t ⟨_, q1, q2, _, q3⟩ (room_here hu)
    | tuple q1 q2 q3 q4 => exact RcNeAt.int_tuple x t ⟨_, q1, q2, _, q3⟩ (room_here hu)
    | dict q1 q2 q3 _ _ => exact ne_int_dict_ x t (isD_of q1 q2 q3) (room_here hu)
  | str x t =>
    cases rb with
    | none => exact RcNeAt.str_none x t
    | bool y => exact RcNeAt.str_bool x t y
    | int y u => exact RcNeAt.str_int x t y u
    | str y u => exact RcNeAt.str_str x t y u
    | list q1 q2 q3 q4 => exact RcNeAt.str_list x t ⟨_, q1, q2, _, q3⟩ (room_here hu)
    | tuple q1 q2 q3 q4 => exact RcNeAt.str_tuple x t ⟨_, q1, q2, _, q3⟩ (room_here hu)
    | dict q1 q2 q3 _ _ => exact ne_str_dict_ x t (isD_of q1 q2 q3) (room_here hu)
  | @list l o vs n xs as₁ p1 p2 p3 p4 =>
    have hL : s.heap.IsList l vs := ⟨_, p1, p2, _, p3⟩
    cases rb with
    | none => exact RcNeAt.list_none hL (room_here hu)
    | bool y => exact RcNeAt.list_bool y hL (room_here hu)
    | int y u => exact RcNeAt.list_int y u hL (room_here hu)
    | str y u => exact RcNeAt.list_str y u hL (room_here hu)
    | tuple q1 q2 q3 q4 => exact RcNeAt.list_tuple hL ⟨_, q1, q2, _, q3⟩ (room_here hu)
    | dict q1 q2 q3 _ _ => exact ne_list_dict_ (isD_of q1 q2 q3) hL (room_here hu)
    | @list l2 o2 ws n2 ys bs₁ q1 q2 q3 q4 =>
      have hR : s.heap.IsList l2 ws := ⟨_, q1, q2, _, q3⟩
      have z1 : vs.size = xs.length := by simpa using ReadsAll.length _ _ _ p4
      have z2 : ws.size = ys.length := by simpa using ReadsAll.length _ _ _ q4
      have each : ∀ j (j1 : j < vs.size) (j2 : j < ws.size), EqAt A.in1 s vs[j] ws[j] (pairEq xs ys j) := fun j j1 j2 => by
        have e := at_ds xs ys A.in1 s vs.toList ws.toList _ _ p4 q4 cm (room_in hu) j (by simpa using j1) (by simpa using j2)
        simpa using e
      show RcNeAt A s (.ref l) (.ref l2) (!PyData.eqvAll xs ys)
      by_cases hsz : vs.size = ws.size
      · rw [← eqvAll_same_length (by omega : xs.length = ys.length), ← z1]
        exact RcNeAt.lists hL hR hsz (room_here hu) each
      · rw [eqvAll_other_length (by omega : xs.length ≠ ys.length)]
        exact RcNeAt.lists_lengths hL hR (by simpa using hsz) (room_here hu)
  | @tuple l o vs n xs as₁ p1 p2 p3 p4 =>
    have hL : s.heap.IsTuple l vs := ⟨_, p1, p2, _, p3⟩
    cases rb with
    | none => exact RcNeAt.tuple_none hL (room_here hu)
    | bool y => exact RcNeAt.tuple_bool y hL (room_here hu)
    | int y u => exact RcNeAt.tuple_int y u hL (room_here hu)
    | str y u => exact RcNeAt.tuple_str y u hL (room_here hu)
    | list q1 q2 q3 q4 => exact RcNeAt.tuple_list hL ⟨_, q1, q2, _, q3⟩ (room_here hu)
    | dict q1 q2 q3 _ _ => exact ne_tuple_dict_ (isD_of q1 q2 q3) hL (room_here hu)
    | @tuple l2 o2 ws n2 ys bs₁ q1 q2 q3 q4 =>
      have hR : s.heap.IsTuple l2 ws := ⟨_, q1, q2, _, q3⟩
      have z1 : vs.size = xs.length := by simpa using ReadsAll.length _ _ _ p4
      have z2 : ws.size = ys.length := by simpa using ReadsAll.length _ _ _ q4
      have each : ∀ j (j1 : j < vs.size) (j2 : j < ws.size), EqAt A.in1 s vs[j] ws[j] (pairEq xs ys j) := fun j j1 j2 => by
        have e := at_ds xs ys A.in1 s vs.toList ws.toList _ _ p4 q4 cm (room_in hu) j (by simpa using j1) (by simpa using j2)
        simpa using e
      show RcNeAt A s (.ref l) (.ref l2) (!PyData.eqvAll xs ys)
      rw [← eqvAll_eq xs ys, ← z1, ← z2]
      exact RcNeAt.tuples hL hR (room_here hu) each
  | dict p1 p2 p3 _ _ =>
    have hD := isD_of p1 p2 p3
    cases rb with
    | none => exact ne_dict_none hD (room_here hu)
    | bool y => exact ne_dict_bool y hD (room_here hu)
    | int y u => exact ne_dict_int y u hD (room_here hu)
    | str y u => exact ne_dict_str y u hD (room_here hu)
    | list q1 q2 q3 q4 => exact ne_dict_list hD ⟨_, q1, q2, _, q3⟩ (room_here hu)
    | tuple q1 q2 q3 q4 => exact ne_dict_tuple hD ⟨_, q1, q2, _, q3⟩ (room_here hu)
    | dict => rcases cm with ⟨_, z⟩ | ⟨z, _⟩ <;> exact nomatch z
end Pz

namespace Pz
open PySem PySem.Spec PyProof.Rows L2

section
variable {α β γ δ κ ρ ι : Type} {ea : α → PyData} {eb : β → PyData} {ec : γ → PyData} {er : ρ → PyData} {ei : ι → PyData} {X : Cx} {R : Res} {Γ Γ' : List Slot} {e a b c : Expr} {st : Stmt} {rest A B body : List Stmt} {pos : Pos} {out : κ → OutD}
/-! ### comparing data, empty dicts among them -/
def cmB (d e : PyData) : Bool := (pl0 d && e.plain) || (d.plain && pl0 e)
theorem cmB_of {d e : PyData} (h : cmB d e = true) : Cm d e := by
  unfold cmB at h
  rw [Bool.or_eq_true, Bool.and_eq_true, Bool.and_eq_true] at h
  exact h
def rEqZ : R2 := fun x y H Q => ∃ A d e, Rp A H x d ∧ Rp A H y e ∧ Cm d e ∧ d.depth ≤ 60 ∧ Q (.bl (PyData.eqv d e)) H
def rNeZ : R2 := fun x y H Q => ∃ A d e, Rp A H x d ∧ Rp A H y e ∧ Cm d e ∧ d.depth ≤ 60 ∧ Q (.bl (!PyData.eqv d e)) H
theorem op_eqZ (hu : X.A.units + 64 < cLine) : OpR X (compareOp .Eq) rEqZ := fun pins s σ H x y v u Q I rx ry h => by
  obtain ⟨A, d, e, hd, he, cm, dp, q⟩ := h
  obtain ⟨as, r1, _⟩ := Rp.reads I d x v hd rx
  obtain ⟨bs, r2, _⟩ := Rp.reads I e y u he ry
  exact eq_d r1 r2 cm (by omega) _ _ _ _ ⟨.bl _, H, I, rfl, q⟩
theorem op_neZ (hu : X.A.units + 64 < cLine) : OpR X (compareOp .NotEq) rNeZ := fun pins s σ H x y v u Q I rx ry h => by
  obtain ⟨A, d, e, hd, he, cm, dp, q⟩ := h
  obtain ⟨as, r1, _⟩ := Rp.reads I d x v hd rx
  obtain ⟨bs, r2, _⟩ := Rp.reads I e y u he ry
  exact ne_d r1 r2 cm (by omega) _ _ _ _ ⟨.bl _, H, I, rfl, q⟩
def eqZ (d e : PyData) : Option Bool := if cmB d e = true ∧ d.depth ≤ 60 then some (PyData.eqv d e) else none
theorem v_eqZ : VOp rEqZ ea eb eBool (fun x y => eqZ (ea x) (eb y)) := fun A H x y vx vy Q z ad r1 r2 e q => by
  obtain ⟨⟨h1, h3⟩, rfl⟩ := oif e
  exact ⟨A, _, _, r1, r2, cmB_of h1, h3, q _ H (Same.refl H) (.bl _)⟩
theorem v_neZ : VOp rNeZ ea eb eBool (fun x y => (eqZ (ea x) (eb y)).map (!·)) := fun A H x y vx vy Q z ad r1 r2 e q => by
  obtain ⟨b, e1, rfl⟩ := Option.map_eq_some_iff.mp e
  obtain ⟨⟨h1, h3⟩, rfl⟩ := oif e1
  exact ⟨A, _, _, r1, r2, cmB_of h1, h3, q _ H (Same.refl H) (.bl _)⟩
theorem e_eqZ {k : Nat} {ma : M α} {mb : M β} (hr : Room k X.A) (ha : EJ X R Γ a ea ma) (hb : EJ X R Γ b eb mb) : EJ X R Γ (.Compare a [.Eq] [b] pos) eBool (bindM ma fun x => bindM mb fun y => optM (eqZ (ea x) (eb y))) := e_cmp (op_eqZ hr.units) v_eqZ ha hb
theorem e_neZ {k : Nat} {ma : M α} {mb : M β} (hr : Room k X.A) (ha : EJ X R Γ a ea ma) (hb : EJ X R Γ b eb mb) : EJ X R Γ (.Compare a [.NotEq] [b] pos) eBool (bindM ma fun x => bindM mb fun y => optM ((eqZ (ea x) (eb y)).map (!·))) := e_cmp (op_neZ hr.units) v_neZ ha hb
theorem t_eqZ {k : Nat} {ma : M α} {mb : M β} (hr : Room k X.A) (ha : EJ X R Γ a ea ma) (hb : EJ X R Γ b eb mb) : TJ X R Γ (.Compare a [.Eq] [b] pos) (bindM ma fun x => bindM mb fun y => optM (eqZ (ea x) (eb y))) := t_cmp (op_eqZ hr.units) v_eqZ ha hb
theorem t_neZ {k : Nat} {ma : M α} {mb : M β} (hr : Room k X.A) (ha : EJ X R Γ a ea ma) (hb : EJ X R Γ b eb mb) : TJ X R Γ (.Compare a [.NotEq] [b] pos) (bindM ma fun x => bindM mb fun y => optM ((eqZ (ea x) (eb y)).map (!·))) := t_cmp (op_neZ hr.units) v_neZ ha hb
/-! ### in, the items plain, what is asked for any -/
theorem items_z {s : Shared} {A : Around} {vs : Array Value} {xs : List PyData} {as bs : List Addr} {x : Value} {d : PyData} (rs : ReadsAll s.heap vs.toList xs as) (rx : Reads s.heap x d bs) (hxs : PyData.plainAll xs = true) (hd : pl0 d = true)
    (hu : A.units + 1 + d.depth < cLine) : ∀ y, y ∈ vs → SeqAt.EqAt A.in1 s y x (PyData.eqv (SeqAt.readOf s.heap y) d) := fun y hy => by
  obtain ⟨dy, cs, ry, hcy, _⟩ := SeqAt.readsAll_mem_plain xs _ _ hxs rs y (by simpa using hy)
  rw [SeqAt.readOf_plain hcy ry]
  refine at_d dy d A.in1 s y x _ _ ry rx (.inr ⟨hcy, hd⟩) ?_
  have : min dy.depth d.depth ≤ d.depth := Nat.min_le_right _ _
  show A.units + 1 + min dy.depth d.depth < cLine
  omega
def rInZ : R2 := fun x y H Q => ∃ A d ds, Rp A H x d ∧ (Rp A H y (.list ds) ∨ Rp A H y (.tuple ds)) ∧ PyData.plainAll ds = true ∧ pl0 d = true ∧ d.depth ≤ 60 ∧ Q (.bl (ds.any fun z => PyData.eqv z d)) H
def rNinZ : R2 := fun x y H Q => ∃ A d ds, Rp A H x d ∧ (Rp A H y (.list ds) ∨ Rp A H y (.tuple ds)) ∧ PyData.plainAll ds = true ∧ pl0 d = true ∧ d.depth ≤ 60 ∧ Q (.bl (!ds.any fun z => PyData.eqv z d)) H
theorem op_inZ (hu : X.A.units + 64 < cLine) : OpR X (compareOp .In) rInZ := fun pins s σ H x y v u Q I rx ry h => by
  obtain ⟨A, d, ds, hd, hc, p1, p2, dp, q⟩ := h
  obtain ⟨as, r1, _⟩ := Rp.reads I d x v hd rx
  rcases hc with hc | hc
  · obtain ⟨bs, r2, _⟩ := Rp.reads I _ y u hc ry
    cases r2 with
    | list h1 h2 h3 h4 => exact SeqAt.in_listAt _ ⟨_, h1, h2, _, h3⟩ (items_z h4 r1 p1 p2 (by omega)) (by rw [SeqAt.any_plain h4 p1]; exact ⟨.bl _, H, I, rfl, q⟩)
  · obtain ⟨bs, r2, _⟩ := Rp.reads I _ y u hc ry
    cases r2 with
    | tuple h1 h2 h3 h4 => exact SeqAt.in_tupleAt _ ⟨_, h1, h2, _, h3⟩ (items_z h4 r1 p1 p2 (by omega)) (by rw [SeqAt.any_plain h4 p1]; exact ⟨.bl _, H, I, rfl, q⟩)
theorem op_ninZ (hu : X.A.units + 64 < cLine) : OpR X (compareOp .NotIn) rNinZ := fun pins s σ H x y v u Q I rx ry h => by
  obtain ⟨A, d, ds, hd, hc, p1, p2, dp, q⟩ := h
  obtain ⟨as, r1, _⟩ := Rp.reads I d x v hd rx
  rcases hc with hc | hc
  · obtain ⟨bs, r2, _⟩ := Rp.reads I _ y u hc ry
    cases r2 with
    | list h1 h2 h3 h4 => exact SeqAt.notIn_listAt _ ⟨_, h1, h2, _, h3⟩ (items_z h4 r1 p1 p2 (by omega)) (by rw [SeqAt.any_plain h4 p1]; exact ⟨.bl _, H, I, rfl, q⟩)
  · obtain ⟨bs, r2, _⟩ := Rp.reads I _ y u hc ry
    cases r2 with
    | tuple h1 h2 h3 h4 => exact SeqAt.notIn_tupleAt _ ⟨_, h1, h2, _, h3⟩ (items_z h4 r1 p1 p2 (by omega)) (by rw [SeqAt.any_plain h4 p1]; exact ⟨.bl _, H, I, rfl, q⟩)
def inZ (d c : PyData) : Option Bool := match c with
  | .list ds | .tuple ds => if PyData.plainAll ds = true ∧ pl0 d = true ∧ d.depth ≤ 60 then some (ds.any fun z => PyData.eqv z d) else none
  | _ => none
theorem inZ_some {d c : PyData} {b : Bool} (h : inZ d c = some b) : ∃ ds, (c = .list ds ∨ c = .tuple ds) ∧ PyData.plainAll ds = true ∧ pl0 d = true ∧ d.depth ≤ 60 ∧ (ds.any fun z => PyData.eqv z d) = b := by
  cases c with
  | list ds => obtain ⟨⟨h1, h2, h3⟩, h4⟩ := oif (show (if PyData.plainAll ds = true ∧ pl0 d = true ∧ d.depth ≤ 60 then some (ds.any fun z => PyData.eqv z d) else none) = some b from h); exact ⟨ds, .inl rfl, h1, h2, h3, h4⟩
  | tuple ds => obtain ⟨⟨h1, h2, h3⟩, h4⟩ := oif (show (if PyData.plainAll ds = true ∧ pl0 d = true ∧ d.depth ≤ 60 then some (ds.any fun z => PyData.eqv z d) else none) = some b from h); exact ⟨ds, .inr rfl, h1, h2, h3, h4⟩
  | _ => cases h
theorem v_inZ : VOp rInZ ea eb eBool (fun x xs => inZ (ea x) (eb xs)) := fun A H x xs vx vy Q z ad r1 r2 e q => by
  obtain ⟨ds, hc, h1, h2, h3, rfl⟩ := inZ_some e
  refine ⟨A, _, ds, r1, ?_, h1, h2, h3, q _ H (Same.refl H) (.bl _)⟩
  rcases hc with hc | hc
  · rw [hc] at r2; exact .inl r2
  · rw [hc] at r2; exact .inr r2
theorem v_ninZ : VOp rNinZ ea eb eBool (fun x xs => (inZ (ea x) (eb xs)).map (!·)) := fun A H x xs vx vy Q z ad r1 r2 e q => by
  obtain ⟨b, e1, rfl⟩ := Option.map_eq_some_iff.mp e
  obtain ⟨ds, hc, h1, h2, h3, rfl⟩ := inZ_some e1
  refine ⟨A, _, ds, r1, ?_, h1, h2, h3, q _ H (Same.refl H) (.bl _)⟩
  rcases hc with hc | hc
  · rw [hc] at r2; exact .inl r2
  · rw [hc] at r2; exact .inr r2
theorem e_inZ {k : Nat} {ma : M α} {mb : M β} (hr : Room k X.A) (ha : EJ X R Γ a ea ma) (hb : EJ X R Γ b eb mb) (hmk : behindInMarks .In b = false := by rfl) : EJ X R Γ (.Compare a [.In] [b] pos) eBool (bindM ma fun x => bindM mb fun y => optM (inZ (ea x) (eb y))) := e_cmp (op_inZ hr.units) v_inZ ha hb hmk
theorem e_ninZ {k : Nat} {ma : M α} {mb : M β} (hr : Room k X.A) (ha : EJ X R Γ a ea ma) (hb : EJ X R Γ b eb mb) (hmk : behindInMarks .NotIn b = false := by rfl) : EJ X R Γ (.Compare a [.NotIn] [b] pos) eBool (bindM ma fun x => bindM mb fun y => optM ((inZ (ea x) (eb y)).map (!·))) := e_cmp (op_ninZ hr.units) v_ninZ ha hb hmk
theorem t_inZ {k : Nat} {ma : M α} {mb : M β} (hr : Room k X.A) (ha : EJ X R Γ a ea ma) (hb : EJ X R Γ b eb mb) (hmk : behindInMarks .In b = false := by rfl) : TJ X R Γ (.Compare a [.In] [b] pos) (bindM ma fun x => bindM mb fun y => optM (inZ (ea x) (eb y))) := t_cmp (op_inZ hr.units) v_inZ ha hb hmk
theorem t_ninZ {k : Nat} {ma : M α} {mb : M β} (hr : Room k X.A) (ha : EJ X R Γ a ea ma) (hb : EJ X R Γ b eb mb) (hmk : behindInMarks .NotIn b = false := by rfl) : TJ X R Γ (.Compare a [.NotIn] [b] pos) (bindM ma fun x => bindM mb fun y => optM ((inZ (ea x) (eb y)).map (!·))) := t_cmp (op_ninZ hr.units) v_ninZ ha hb hmk

/-! ### a < b < c -/
theorem chain_read {r r' : R2} {ma : M α} {mb : M β} {mc : M γ} {f : α → β → Option Bool} {g : β → γ → Option Bool} (hv : VOp r ea eb eBool f) (hv' : VOp r' eb ec eBool g) {σ : L2.St} {H : Hp} {Q : VK}
    (h : tE R Γ eBool (bindM ma fun x => bindM mb fun y => bindM (optM (f x y)) fun k => if k then bindM mc fun z => optM (g y z) else pureM false) σ H Q) : tChain r r' (tE R Γ ea ma) (tE R Γ eb mb) (tE R Γ ec mc) σ H Q := by
  obtain ⟨O, H0, ow, st, z, st', rel, ok, e, q⟩ := h
  obtain ⟨x, s1, e1, e2⟩ := bind_some e
  obtain ⟨y, s2, e3, e4⟩ := bind_some e2
  obtain ⟨k, s3, e5, e6⟩ := bind_some e4
  obtain ⟨e7, rfl⟩ := optM_inv e5
  refine ⟨O, H0, ow, st, x, s1, rel, ok, e1, fun vx H1 k1 o1 r1 => ?_⟩
  have rel1 := rel.grow k1 (okZ o1)
  refine ⟨O, H0, ow, s1, y, s2, rel1, o1, e3, fun vy H2 k2 o2 r2 => ?_⟩
  have rel2 := rel1.grow k2 (okZ o2)
  refine hv (avo O Γ ow) H2 x y vx vy _ k rel2.ad (r1.keep (rel1.keepA k2)) r2 e7 fun v H3 s3' r3 => ?_
  cases r3
  refine ⟨k, rfl, ?_⟩
  have k3 := Keep.of_same (A := Zr R) s3'
  have o3 := o2.same s3'
  have rel3 := rel2.grow k3 (okZ o3)
  cases k with
  | false =>
    obtain ⟨rfl, rfl⟩ := pure_some (show pureM false s2 = some (z, st') from e6)
    exact L2.iteF (q _ H3 ((k1.trans k2).trans k3) o3 (.bl false))
  | true =>
    obtain ⟨w, s4, e8, e9⟩ := bind_some (show bindM mc (fun z => optM (g y z)) s2 = some (z, st') from e6)
    obtain ⟨e10, rfl⟩ := optM_inv e9
    refine L2.iteT ⟨O, H0, ow, s2, w, s4, rel3, o3, e8, fun vz H4 k4 o4 r4 => ?_⟩
    have rel4 := rel3.grow k4 (okZ o4)
    exact hv' (avo O Γ ow) H4 y w vy vz Q z rel4.ad ((r2.keep (rel2.keepA k3)).keep (rel3.keepA k4)) r4 e10 fun v H5 s5 r5 => q v H5 (((k1.trans k2).trans k3).trans (k4.trans (Keep.of_same s5))) (o4.same s5) r5
theorem e_chain {op op' : CmpOp} {r r' : R2} {ma : M α} {mb : M β} {mc : M γ} {f : α → β → Option Bool} {g : β → γ → Option Bool} (ho : OpR X (compareOp op) r) (ho' : OpR X (compareOp op') r') (hv : VOp r ea eb eBool f) (hv' : VOp r' eb ec eBool g)
    (ha : EJ X R Γ a ea ma) (hb : EJ X R Γ b eb mb) (hc : EJ X R Γ c ec mc) (hm : lastMarks [op, op'] [b, c] = false := by first | rfl | with_unfolding_all rfl) :
    EJ X R Γ (.Compare a [op, op'] [b, c] pos) eBool (bindM ma fun x => bindM mb fun y => bindM (optM (f x y)) fun k => if k then bindM mc fun z => optM (g y z) else pureM false) :=
  PE.weak (pe_chain ho ho' ha hb hc hm) fun σ H Q h => chain_read hv hv' h
theorem t_chain {op op' : CmpOp} {r r' : R2} {ma : M α} {mb : M β} {mc : M γ} {f : α → β → Option Bool} {g : β → γ → Option Bool} (ho : OpR X (compareOp op) r) (ho' : OpR X (compareOp op') r') (hv : VOp r ea eb eBool f) (hv' : VOp r' eb ec eBool g)
    (ha : EJ X R Γ a ea ma) (hb : EJ X R Γ b eb mb) (hc : EJ X R Γ c ec mc) (hm : lastMarks [op, op'] [b, c] = false := by first | rfl | with_unfolding_all rfl) :
    TJ X R Γ (.Compare a [op, op'] [b, c] pos) (bindM ma fun x => bindM mb fun y => bindM (optM (f x y)) fun k => if k then bindM mc fun z => optM (g y z) else pureM false) := by
  refine PT.weak (pt_chain ho ho' ha hb hc hm) fun σ H Q h => ?_
  refine chain_read (Q := fun v H' => ∃ k, v = .bl k ∧ Q k H') hv hv' ?_
  obtain ⟨O, H0, ow, st, z, st', rel, ok, e, q⟩ := h
  exact ⟨O, H0, ow, st, z, st', rel, ok, e, fun v H' k o r => by cases r; exact ⟨_, rfl, q H' k o⟩⟩
end
end Pz

namespace Pz
open PySem PySem.Spec PyProof.Rows L2

section
variable {α β γ δ κ ρ ι : Type} {ea : α → PyData} {eb : β → PyData} {ec : γ → PyData} {er : ρ → PyData} {ei : ι → PyData} {X : Cx} {R : Res} {Γ Γ' : List Slot} {e a b c : Expr} {st : Stmt} {rest A B body : List Stmt} {pos : Pos} {out : κ → OutD}
/-! ### a tuple taken apart -/
def of2 (xs : List α) : Option (α × α × Unit) := match xs with
  | [a, b] => some (a, b, ())
  | _ => none
def of3 (xs : List α) : Option (α × α × α × Unit) := match xs with
  | [a, b, c] => some (a, b, c, ())
  | _ => none
def of4 (xs : List α) : Option (α × α × α × α × Unit) := match xs with
  | [a, b, c, d] => some (a, b, c, d, ())
  | _ => none
theorem e_of2 {m : M (List α)} (h : EJ X R Γ e (eT ea) m) : EJ X R Γ e (eP (eC ea (eC ea eU))) (bindM m fun x => optM (of2 x)) := e_narrow of2 h fun x y q => by
  unfold of2 at q
  split at q
  · cases q; rfl
  · cases q
theorem e_of3 {m : M (List α)} (h : EJ X R Γ e (eT ea) m) : EJ X R Γ e (eP (eC ea (eC ea (eC ea eU)))) (bindM m fun x => optM (of3 x)) := e_narrow of3 h fun x y q => by
  unfold of3 at q
  split at q
  · cases q; rfl
  · cases q
theorem e_of4 {m : M (List α)} (h : EJ X R Γ e (eT ea) m) : EJ X R Γ e (eP (eC ea (eC ea (eC ea (eC ea eU))))) (bindM m fun x => optM (of4 x)) := e_narrow of4 h fun x y q => by
  unfold of4 at q
  split at q
  · cases q; rfl
  · cases q
/-! ### a, b = (.., [..]): the second is an own list -/
theorem q_par2o (i j : Nat) {x y : Str} {a b : Expr} {px py pt : Pos} {kt k2 pt2} {ma : M α} {mb : M (List β)} (ha : EJ X R Γ a ea ma) (hb : EF X R Γ b eb mb) (hc : X.calm = true) (hN : X.N.Nodup) (hi : X.N[i]? = some x := by rfl) (hj : X.N[j]? = some y := by rfl) (hij : i ≠ j := by decide)
    (hx : X.env.scope.names.lookup x = some .local := by rfl) (hy : X.env.scope.names.lookup y = some .local := by rfl)
    (hw : swappedStores [.Tuple [.Name x px, .Name y py] kt pt] (.Tuple [a, b] k2 pt2) X.env = pure (some [x, y]) := by rfl)
    (hs : swapsWithSole [.Tuple [.Name x px, .Name y py] kt pt] (.Tuple [a, b] k2 pt2) pos.line X.env = pure false := by rfl)
    (hs1 : starEach [a, b] X.env = (false, eval a X.env) :: starEach [b] X.env := by rfl) (hs2 : starEach [b] X.env = (false, eval b X.env) :: starEach [] X.env := by rfl) :
    QJ X R Γ (.Assign [.Tuple [.Name x px, .Name y py] kt pt] (.Tuple [a, b] k2 pt2) pos) (fun p : α × List β => .nx ((Γ.set i (.fz (ea p.1))).set j (.ow (eL eb p.2)))) (bindM ma fun u => bindM mb fun v => pureM (u, v)) := by
  refine PS.weak (ps_par hc hN hi hj hij hx hy (pa_cons ha (pa_cons hb pa_nil hs2) hs1) hw hs) fun D σ H ⟨O, H0, ow, st, z, st', rel, ok, e, q⟩ => ?_
  obtain ⟨u, s1, e1, e2⟩ := bind_some e
  obtain ⟨v, s2, e3, e4⟩ := bind_some e2
  obtain ⟨rfl, rfl⟩ := pure_some e4
  refine ⟨O, H0, ow, st, u, s1, rel, ok, e1, fun vx H1 k1 o1 r1 => ?_⟩
  have rel1 := rel.grow k1 (okZ o1)
  refine ⟨O, H0, ow, s1, v, s2, rel1, o1, e3, fun p vs H2 n2 k2 o2 ep r2 => ?_⟩
  have relx := rel1.setFz i r1
  have less : ∀ a, avo O (Γ.set i (.fz (ea u))) ow a → avo O Γ ow a := fun a z => by
    rcases z with z | ⟨l, d, e5, e6⟩
    · exact .inl z
    · exact .inr ⟨l, d, set_noow _ _ e5, e6⟩
  obtain ⟨rel2, stp⟩ := relx.setOw j n2 k2 (okZ o2) ep (r2.less fun a z => z.elim (fun z => .inl (less a z)) .inr)
  refine ⟨vx, .ref p, rfl, q _ _ H2 rel2 o2 ⟨?_, fun l d e5 => ?_⟩⟩
  · exact rel.keepA (k1.trans k2)
  · rcases stp.sub l d e5 with z | z
    · exact .inl (less _ z)
    · by_cases na : avo O Γ ow ((fun l => if l = j then p else ow l) l)
      · exact .inl na
      · cases h : H ((fun l => if l = j then p else ow l) l) with
        | none => exact .inr rfl
        | some o =>
          have := rel.keepA k1 _ _ na h
          rw [this] at z; cases z
theorem e_some {m : M (Option α)} (h : EJ X R Γ e (eO ea) m) : EJ X R Γ e ea (bindM m fun x => optM x) := e_narrow (fun x => x) h fun x y q => by rw [q]; rfl
/-! ### {} as data -/
theorem e_dict0 : EJ X R Γ (.Dict [] [] pos) eD (pureM (.dict [])) := by
  refine PE.weak pe_dnewK fun σ H Q ⟨O, H0, ow, st, z, st', rel, ok, e, q⟩ => ?_
  obtain ⟨rfl, rfl⟩ := pure_some e
  intro p n
  exact q _ _ (Keep.of_same (same_new n)) (ok.same (same_new n)) (.dic (rel.ad.fresh n) upd_same)
/-! ### more stars -/
theorem l_starL {es : List Expr} {p : Pos} {ma mb : M (List α)} (ha : EJ X R Γ a (eL ea) ma) (hb : LJ X R Γ es ea mb) (hs : starEach (.Starred a p :: es) X.env = (true, eval a X.env) :: starEach es X.env := by rfl) :
    LJ X R Γ (.Starred a p :: es) ea (bindM ma fun x => bindM mb fun y => pureM (x ++ y)) := by
  refine PA.weak (StX.pa_star ha hb hs) fun σ H Q ⟨O, H0, ow, st, z, st', rel, ok, e, q⟩ => ?_
  obtain ⟨x, s1, e1, e'⟩ := bind_some e
  obtain ⟨y, s2, e2, e3⟩ := bind_some e'
  obtain ⟨rfl, rfl⟩ := pure_some e3
  refine ⟨O, H0, ow, st, x, s1, rel, ok, e1, fun vx H1 k1 o1 r1 => ?_⟩
  cases r1 with
  | lst na ha hr =>
    refine ⟨_, _, rfl, .inr (SqL.of ha), O, H0, ow, s1, y, s2, rel.grow k1 (okZ o1), o1, e2, fun vs H2 k2 o2 r2 => q _ H2 (k1.trans k2) o2 ?_⟩
    have hr2 := hr.keep ((rel.grow k1 (okZ o1)).keepA k2)
    have all := hr2.append (RpSs.dat (R := R) r2)
    rw [← List.map_append] at all
    have back : ∀ {vs : List V} {ds : List PyData}, RpAll (avo O Γ ow) H2 vs ds → RpSs R (avo O Γ ow) H2 vs (ds.map .fz) := by
      intro vs ds
      induction ds generalizing vs with
      | nil => intro h; cases h; exact .nil
      | cons d ds ih => intro h; cases h with | cons h1 h2 => exact .cons h1 (ih h2)
    exact back all
end
end Pz

namespace Pz
open PySem PySem.Spec PyProof.Rows L2
/-! ### sorted rows of ints: the order of lists -/
theorem rowsLe : PySem.W.dataLe false (eT eInt) = fun (p q : List Int) => decide (p ≤ q) := PySem.W.dataLe_rows (β := List Int) (fun x => x)
theorem srt_rows (xs : List (List Int)) : srt (eT eInt) xs = xs.mergeSort fun p q => decide (p ≤ q) := by unfold srt; rw [rowsLe]
theorem intsLe : PySem.W.dataLe false eInt = fun (p q : Int) => decide (p ≤ q) := PySem.W.dataLe_int (β := Int) (fun x => x)
theorem srt_ints (xs : List Int) : srt eInt xs = xs.mergeSort fun p q => decide (p ≤ q) := by unfold srt; rw [intsLe]
theorem rows_anti (a b : List Int) (h1 : a ≤ b) (h2 : b ≤ a) : a = b := Std.le_antisymm h1 h2
theorem srt_sorted (xs : List (List Int)) : (srt (eT eInt) xs).Pairwise (· ≤ ·) := by
  rw [srt_rows]
  have := List.pairwise_mergeSort (le := fun p q : List Int => decide (p ≤ q)) (fun a b c h1 h2 => by simp only [decide_eq_true_eq] at h1 h2 ⊢; exact Std.le_trans h1 h2) (fun a b => by simp only [Bool.or_eq_true, decide_eq_true_eq]; exact Std.le_total) xs
  exact this.imp fun h => by simpa using h
/-- sorted, and the same items: the same list -/
theorem srt_eq {xs ys : List (List Int)} (hp : xs.Perm ys) (hs : ys.Pairwise (· ≤ ·)) : srt (eT eInt) xs = ys := by
  have h1 : (srt (eT eInt) xs).Perm ys := (List.mergeSort_perm _ _).trans hp
  exact h1.eq_of_pairwise (fun a b _ _ => rows_anti a b) (srt_sorted xs) hs
end Pz

namespace Pz
open PySem PySem.Spec PyProof.Rows L2
/-! ### the lots of k of n points, the first first -/
def nextL (lot : List Int) : Int := match lot.getLast? with
  | some x => x + 1
  | none => 0
def lotsL (n : Int) : Nat → List (List Int)
  | 0 => [[]]
  | k + 1 => (lotsL n k).flatMap fun lot => (irange (nextL lot) n).map fun b => lot ++ [b]
/-- rising, from lo on, below n -/
def Lot (n : Int) (lot : List Int) : Prop := lot.Pairwise (· < ·) ∧ ∀ x ∈ lot, 0 ≤ x ∧ x < n
theorem nextL_snoc (l : List Int) (b : Int) : nextL (l ++ [b]) = b + 1 := by unfold nextL; rw [List.getLast?_concat]
theorem lot_next {n : Int} {lot : List Int} (h : Lot n lot) : 0 ≤ nextL lot ∧ ∀ x ∈ lot, x < nextL lot := by
  rcases List.eq_nil_or_concat lot with rfl | ⟨l, b, rfl⟩
  · exact ⟨by decide, by simp⟩
  · rw [List.concat_eq_append] at h ⊢
    rw [nextL_snoc]
    have hb := h.2 b (by simp)
    refine ⟨by omega, fun x hx => ?_⟩
    rcases List.mem_append.mp hx with hx | hx
    · have := (List.pairwise_append.mp h.1).2.2 x hx b (by simp)
      omega
    · rw [List.mem_singleton] at hx; omega
theorem lot_snoc {n : Int} {l : List Int} {b : Int} : Lot n (l ++ [b]) ↔ Lot n l ∧ nextL l ≤ b ∧ b < n := by
  constructor
  · intro h
    have hl : Lot n l := ⟨(List.pairwise_append.mp h.1).1, fun x hx => h.2 x (List.mem_append_left _ hx)⟩
    have hb := h.2 b (by simp)
    refine ⟨hl, ?_, hb.2⟩
    rcases List.eq_nil_or_concat l with rfl | ⟨m, c, rfl⟩
    · exact hb.1
    · rw [List.concat_eq_append] at h ⊢
      rw [nextL_snoc]
      have := (List.pairwise_append.mp h.1).2.2 c (by simp) b (by simp)
      omega
  · rintro ⟨hl, h1, h2⟩
    have nx := lot_next hl
    refine ⟨List.pairwise_append.mpr ⟨hl.1, by simp, fun x hx y hy => ?_⟩, fun x hx => ?_⟩
    · rw [List.mem_singleton] at hy
      have := nx.2 x hx
      omega
    · rcases List.mem_append.mp hx with hx | hx
      · exact hl.2 x hx
      · rw [List.mem_singleton] at hx; omega
theorem mem_lotsL {n : Int} : ∀ {k : Nat} {lot : List Int}, lot ∈ lotsL n k ↔ Lot n lot ∧ lot.length = k
  | 0, lot => by
    simp only [lotsL, List.mem_singleton]
    constructor
    · rintro rfl; exact ⟨⟨.nil, by simp⟩, rfl⟩
    · rintro ⟨_, h⟩; exact List.eq_nil_of_length_eq_zero h
  | k + 1, lot => by
    simp only [lotsL, List.mem_flatMap, List.mem_map, mem_irange]
    constructor
    · rintro ⟨l, hl, b, ⟨h1, h2⟩, rfl⟩
      have := mem_lotsL.mp hl
      exact ⟨lot_snoc.mpr ⟨this.1, h1, h2⟩, by simp [this.2]⟩
    · rintro ⟨h, hk⟩
      rcases List.eq_nil_or_concat lot with rfl | ⟨l, b, rfl⟩
      · simp at hk
      · rw [List.concat_eq_append] at *
        obtain ⟨hl, h1, h2⟩ := lot_snoc.mp h
        exact ⟨l, mem_lotsL.mpr ⟨hl, by simpa using hk⟩, b, ⟨h1, h2⟩, rfl⟩
theorem lt_app : ∀ {a b : List Int} (x y : List Int), a.length = b.length → a < b → a ++ x < b ++ y
  | [], [], _, _, _, h => absurd h (by simp)
  | a :: as, b :: bs, x, y, hl, h => by
    rw [List.cons_append, List.cons_append, List.cons_lt_cons_iff]
    rcases List.cons_lt_cons_iff.mp h with h | ⟨e, h2⟩
    · exact .inl h
    · exact .inr ⟨e, lt_app x y (by simpa using hl) h2⟩
theorem app_lt : ∀ (a : List Int) {x y : List Int}, x < y → a ++ x < a ++ y
  | [], _, _, h => h
  | a :: as, _, _, h => by
    rw [List.cons_append, List.cons_append, List.cons_lt_cons_iff]
    exact .inr ⟨rfl, app_lt as h⟩
theorem irange_sorted (lo hi : Int) : (irange lo hi).Pairwise (· < ·) := by
  unfold irange
  rw [List.pairwise_map]
  exact List.pairwise_lt_range.imp fun h => by omega
theorem lotsL_sorted {n : Int} : ∀ k : Nat, (lotsL n k).Pairwise (· < ·)
  | 0 => by simp [lotsL]
  | k + 1 => by
    unfold lotsL
    rw [List.pairwise_flatMap]
    refine ⟨fun l _ => ?_, ?_⟩
    · rw [List.pairwise_map]
      exact (irange_sorted _ _).imp fun {a b} h => app_lt l (List.cons_lt_cons_iff.mpr (.inl h))
    · refine (lotsL_sorted k).imp_of_mem fun {a b} ha hb h x hx y hy => ?_
      obtain ⟨c, _, rfl⟩ := List.mem_map.mp hx
      obtain ⟨d, _, rfl⟩ := List.mem_map.mp hy
      exact lt_app _ _ (by rw [(mem_lotsL.mp ha).2, (mem_lotsL.mp hb).2]) h
theorem lotsL_nodup {n : Int} (k : Nat) : (lotsL n k).Nodup := (lotsL_sorted k).imp fun h e => by rw [e] at h; exact absurd h (Std.lt_irrefl)
/-- a list of the same lots, none twice: sorted, it is lotsL -/
theorem srt_lots {n : Int} {k : Nat} {xs : List (List Int)} (hn : xs.Nodup) (hm : ∀ l, l ∈ xs ↔ Lot n l ∧ l.length = k) : srt (eT eInt) xs = lotsL n k := by
  refine srt_eq ((List.perm_ext_iff_of_nodup hn (lotsL_nodup k)).mpr fun a => by rw [hm, mem_lotsL]) ?_
  exact (lotsL_sorted k).imp fun h => Std.le_of_lt h
end Pz

/-! the plain side, part two: lists, shown data, heads -/
namespace Pz
open PySem PySem.Spec PyProof.Rows L2
section
variable {α β γ κ ρ ι : Type}
theorem sm100 {xs : List α} (h : xs.length ≤ 100) : smallM (pureM xs) = pureM xs := smallM_pure (by unfold sizeLine; omega)
theorem forM_append {β ι : Type} (f : β → ι → M β) : ∀ (xs ys : List ι) (b : β), forM' f (xs ++ ys) b = Pz.bindM (forM' f xs b) fun c => forM' f ys c
  | [], ys, b => rfl
  | x :: xs, ys, b => by
    rw [List.cons_append, forM', forM', Pz.bind_assoc]
    congr 1
    funext c
    exact forM_append f xs ys c
theorem irange_succ (m : Nat) : irange 0 ((m : Int) + 1) = irange 0 m ++ [(m : Int)] := by
  unfold irange
  rw [show ((m : Int) + 1 - 0).toNat = m + 1 by omega, show ((m : Int) - 0).toNat = m by omega, List.range_succ, List.map_append]
  simp
theorem irange_snoc {lo hi : Int} (h : lo ≤ hi) : irange lo (hi + 1) = irange lo hi ++ [hi] := by
  unfold irange
  rw [show (hi + 1 - lo).toNat = (hi - lo).toNat + 1 by omega, List.range_succ, List.map_append]
  simp
  omega
theorem irange_cons {lo hi : Int} (h : lo < hi) : irange lo hi = lo :: irange (lo + 1) hi := by
  unfold irange
  rw [show (hi - lo).toNat = (hi - (lo + 1)).toNat + 1 by omega, List.range_succ_eq_map, List.map_cons, List.map_map]
  simp
  intro a _
  omega
theorem irange_nil {lo hi : Int} (h : hi ≤ lo) : irange lo hi = [] := by
  unfold irange
  rw [show (hi - lo).toNat = 0 by omega]; rfl
theorem irange_nodup (lo hi : Int) : (irange lo hi).Nodup := (irange_sorted lo hi).imp fun h => by omega
theorem filt_map (q : α → Bool) (f : α → β) : ∀ xs : List α, (xs.flatMap fun x => if q x then [f x] else []) = (xs.filter q).map f
  | [] => rfl
  | x :: xs => by
    rw [List.flatMap_cons, filt_map q f xs]
    cases h : q x <;> simp [h]
theorem filter_flatMap' (q : β → Bool) (f : α → List β) : ∀ xs : List α, (xs.flatMap f).filter q = xs.flatMap fun x => (f x).filter q
  | [] => rfl
  | x :: xs => by rw [List.flatMap_cons, List.filter_append, filter_flatMap' q f xs, List.flatMap_cons]
theorem flatMap_filter' (q : α → Bool) (f : α → List β) : ∀ xs : List α, (xs.filter q).flatMap f = xs.flatMap fun x => if q x then f x else []
  | [] => rfl
  | x :: xs => by
    cases h : q x with
    | true => rw [List.filter_cons_of_pos h, List.flatMap_cons, List.flatMap_cons, h, flatMap_filter' q f xs]; rfl
    | false => rw [List.filter_cons_of_neg (by rw [h]; simp), List.flatMap_cons, h, flatMap_filter' q f xs]; rfl
theorem atI_lastq (xs : List α) (x : α) : atI (xs ++ [x]) (-1) = some x := by
  unfold atI L2.ixN
  rw [if_neg (by omega), List.length_append, List.length_singleton, if_pos (by omega), show (-1 + ((xs.length + 1 : Nat) : Int)).toNat = xs.length by omega]
  simp
theorem cut_to (xs : List α) {n : Int} (h : 0 ≤ n) : cutL xs none (some n) = xs.take n.toNat := by
  unfold cutL HT.sIx
  dsimp only
  rw [if_neg (by omega), List.drop_zero, Nat.sub_zero, ← List.take_take, List.take_length]
theorem cut_from (xs : List α) {n : Int} (h : 0 ≤ n) : cutL xs (some n) none = xs.drop n.toNat := by
  unfold cutL HT.sIx
  dsimp only
  rw [if_neg (by omega)]
  by_cases hl : n.toNat ≤ xs.length
  · rw [Nat.min_eq_left hl, List.take_of_length_le (by rw [List.length_drop]; omega)]
  · rw [Nat.min_eq_right (by omega), List.drop_eq_nil_of_le (Nat.le_refl _), List.drop_eq_nil_of_le (by omega)]; simp
theorem enumF_snoc (b : α) : ∀ (k : Nat) (xs : List α), enumF k (xs ++ [b]) = enumF k xs ++ [(((k + xs.length : Nat) : Int), b, ())]
  | k, [] => by simp [enumF]
  | k, x :: xs => by
    rw [List.cons_append, enumF, enumF_snoc b (k + 1) xs, enumF, List.cons_append]
    simp only [List.length_cons]
    rw [show k + 1 + xs.length = k + (xs.length + 1) by omega]
theorem enum_lt {xs : List α} {q : Int × α × Unit} (h : q ∈ enumL xs) : 0 ≤ q.1 ∧ q.1 < xs.length ∧ xs[q.1.toNat]? = some q.2.1 := by
  obtain ⟨i, hi⟩ := List.mem_iff_getElem?.mp h
  rw [enumL_get] at hi
  obtain ⟨x, hx, e⟩ := Option.map_eq_some_iff.mp hi
  have h1 := (List.getElem?_eq_some_iff.mp hx).1
  subst e
  exact ⟨Int.natCast_nonneg i, by show (i : Int) < _; omega, by simpa using hx⟩
theorem enum_mem {xs : List α} {q : Int × α × Unit} (h : q ∈ enumL xs) : q.2.1 ∈ xs := List.mem_of_getElem? (enum_lt h).2.2
theorem enumF_map (f : α → β) : ∀ (k : Nat) (xs : List α), enumF k (xs.map f) = (enumF k xs).map fun p => (p.1, f p.2.1, ())
  | _, [] => rfl
  | k, x :: xs => by rw [List.map_cons, enumF, enumF, List.map_cons, enumF_map f (k + 1) xs]
theorem enum_map (f : α → β) (xs : List α) : enumL (xs.map f) = (enumL xs).map fun p => (p.1, f p.2.1, ()) := enumF_map f 0 xs
theorem comp_map (c : β → M Bool) (f : β → M γ) (g : α → β) : ∀ xs : List α, compM c f (xs.map g) = compM (fun x => c (g x)) (fun x => f (g x)) xs
  | [] => rfl
  | x :: xs => by rw [List.map_cons, compM, compM, comp_map c f g xs]
theorem forO_map {f : β → γ → M (Out ρ β)} (g : α → γ) : ∀ (xs : List α) (b : β), forO f (xs.map g) b = forO (fun b x => f b (g x)) xs b
  | [], b => rfl
  | x :: xs, b => by
    rw [List.map_cons, forO, forO]
    congr 1
    funext o
    cases o with
    | nx b => exact forO_map g xs b
    | rt r => rfl
theorem forO_some {f : β → ι → M (Out ρ β)} (g : ι → Option ρ) (b : β) : ∀ {xs : List ι}, (∀ x ∈ xs, f b x = pureM (match g x with | some r => .rt r | none => .nx b)) → forO f xs b = pureM (match xs.findSome? g with | some r => .rt r | none => .nx b)
  | [], _ => rfl
  | x :: xs, hf => by
    unfold forO
    rw [hf x List.mem_cons_self, bp]
    cases h : g x with
    | some r => simp [List.findSome?, h]
    | none =>
      dsimp only
      rw [forO_some g b fun y hy => hf y (List.mem_cons_of_mem _ hy)]
      simp [List.findSome?, h]
theorem compM_pureF {c : ι → M Bool} (cc : ι → Bool) {xs : List ι} (h : ∀ x ∈ xs, c x = pureM (cc x)) : compM c (fun x => pureM x) xs = pureM (xs.filter cc) := by
  rw [compM_pure cc (fun x => x) h fun _ _ _ => rfl, List.map_id']
theorem at0 (x : α) (r : List α) : atI (x :: r) 0 = some x := Pz.atI_nat (xs := x :: r) (i := 0) (Nat.succ_pos _)
theorem at1 (x y : α) (r : List α) : atI (x :: y :: r) 1 = some y := Pz.atI_nat (xs := x :: y :: r) (i := 1) (by simp)
theorem at2 (x y z : α) (r : List α) : atI (x :: y :: z :: r) 2 = some z := Pz.atI_nat (xs := x :: y :: z :: r) (i := 2) (by simp)
theorem asTup_t (ds : List PyData) : asTup (.tuple ds) = some ds := rfl
theorem find_head (q : α → Bool) (xs : List α) : (xs.filter q).head? = xs.find? q := List.head?_filter ..

/-! ### whole numbers among data -/
def isWN : PyData → Bool
  | .int _ => true
  | _ => false
theorem wn_ints : ∀ {ys : List PyData}, ys.all isWN = true → ∃ xs : List Int, ys.mapM asInt = some xs ∧ ys = xs.map eInt
  | [], _ => ⟨[], rfl, rfl⟩
  | y :: ys, h => by
    rw [List.all_cons, Bool.and_eq_true] at h
    obtain ⟨xs, e1, e2⟩ := wn_ints h.2
    cases y with
    | int i =>
      refine ⟨i :: xs, ?_, by rw [e2]; rfl⟩
      rw [List.mapM_cons]
      show (some i).bind _ = _
      rw [Option.bind_some, e1]
      rfl
    | _ => simp [isWN] at h
theorem mapM_ints : ∀ xs : List Int, (xs.map eInt).mapM asInt = some xs
  | [] => rfl
  | x :: xs => by
    rw [List.map_cons, List.mapM_cons, mapM_ints xs]; rfl
theorem all_ints (xs : List Int) : (xs.map eInt).all isWN = true := by
  rw [List.all_eq_true]
  intro d hd
  obtain ⟨i, _, rfl⟩ := List.mem_map.mp hd
  rfl

/-! ### comparing -/
theorem eqZ_str (s t : Str) : eqZ (.str s) (eStr t) = some (decide (s = t)) := by
  unfold eqZ
  rw [if_pos ⟨rfl, by simp [PyData.depth]⟩]
  simp [eStr, PyData.eqv]
  exact Bool.beq_eq_decide_eq s t
theorem pl0s_filter {p : PyData → Bool} : ∀ {ys : List PyData}, pl0s ys = true → pl0s (ys.filter p) = true
  | [], _ => rfl
  | y :: ys, h => by
    simp only [pl0s, Bool.and_eq_true] at h
    cases hy : p y with
    | true => rw [List.filter_cons_of_pos hy]; simp only [pl0s, Bool.and_eq_true]; exact ⟨h.1, pl0s_filter h.2⟩
    | false => rw [List.filter_cons_of_neg (by rw [hy]; simp)]; exact pl0s_filter h.2
theorem depth_filter {p : PyData → Bool} : ∀ {ys : List PyData}, PyData.depthAll (ys.filter p) ≤ PyData.depthAll ys
  | [] => Nat.le_refl _
  | y :: ys => by
    have ih := depth_filter (p := p) (ys := ys)
    cases hy : p y with
    | true => rw [List.filter_cons_of_pos hy]; simp only [PyData.depthAll]; omega
    | false => rw [List.filter_cons_of_neg (by rw [hy]; simp)]; simp only [PyData.depthAll]; omega
/-- a list of data compared with [] -/
theorem eqZ_nil {ys : List PyData} (hp : pl0s ys = true) (hd : PyData.depthAll ys ≤ 58) : eqZ (eL eD ys) (eL eD []) = some ys.isEmpty := by
  have e : eqZ (eL eD ys) (eL eD []) = some (PyData.eqv (eL eD ys) (eL eD [])) := by
    unfold eqZ
    refine if_pos ⟨?_, by simp only [eL, PyData.depth, map_eD]; omega⟩
    unfold cmB
    rw [Bool.or_eq_true]
    left
    rw [Bool.and_eq_true]
    exact ⟨by simpa [eL, pl0, map_eD] using hp, rfl⟩
  rw [e]
  cases ys with
  | nil => rfl
  | cons a l => simp [eL, PyData.eqv, PyData.eqvAll]

/-! ### shown data: f: no list in it (then empty dicts may be), else no dict -/
structure Sg (f : Bool) (dp wt : Nat) (d : PyData) : Prop where
  show_ : d.showable = true
  dic : if f then noLst d = true else d.hasDict = false
  dep : d.depth ≤ dp
  leaf : d.leavesShort 40 = true
  wgt : d.weight ≤ wt
structure Sgs (f : Bool) (dp wt : Nat) (ds : List PyData) : Prop where
  show_ : PyData.showableAll ds = true
  dic : if f then noLsts ds = true else PyData.hasDictAll ds = false
  dep : PyData.depthAll ds ≤ dp
  leaf : PyData.leavesShortAll 40 ds = true
  wgt : PyData.weightAll ds ≤ wt
theorem Sg.mono {f : Bool} {dp wt dp' wt' : Nat} {d : PyData} (h : Sg f dp wt d) (h1 : dp ≤ dp') (h2 : wt ≤ wt') : Sg f dp' wt' d := ⟨h.show_, h.dic, Nat.le_trans h.dep h1, h.leaf, Nat.le_trans h.wgt h2⟩
theorem Sgs.mono {f : Bool} {dp wt dp' wt' : Nat} {d : List PyData} (h : Sgs f dp wt d) (h1 : dp ≤ dp') (h2 : wt ≤ wt') : Sgs f dp' wt' d := ⟨h.show_, h.dic, Nat.le_trans h.dep h1, h.leaf, Nat.le_trans h.wgt h2⟩
theorem Sg.rep {f : Bool} {wt : Nat} {d : PyData} (h : Sg f 60 wt d) (hw : 42 * wt + 40 ≤ 16777216 := by decide) : reprO d = some d.shown := by
  unfold reprO
  exact if_pos ⟨h.show_, (by
    have h2 := h.dic
    cases f with
    | true => exact fun _ => by simpa using h2
    | false => exact fun z => by simp only [Bool.false_eq_true, if_false] at h2; rw [h2] at z; cases z), h.dep, (by
    have h1 := PyData.shown_le 40 (by decide) d h.leaf
    have h2 : (40 + 2) * d.weight ≤ (40 + 2) * wt := Nat.mul_le_mul_left _ h.wgt
    rw [sizeLine_eq]
    omega)⟩
theorem Sg.of {dp wt : Nat} {d : PyData} (h : Sh dp wt d) : Sg false dp wt d := ⟨h.show_, by simpa using h.dic, h.dep, h.leaf, h.wgt⟩
theorem Sgs.nil {f : Bool} : Sgs f 0 0 [] := ⟨rfl, by cases f <;> rfl, by simp [PyData.depthAll], rfl, by simp [PyData.weightAll]⟩
theorem Sgs.cons {f : Bool} {dp w1 w2 : Nat} {d : PyData} {r : List PyData} (h : Sg f dp w1 d) (k : Sgs f dp w2 r) : Sgs f dp (w1 + 1 + w2) (d :: r) := by
  obtain ⟨a1, a2, a3, a4, a5⟩ := h
  obtain ⟨b1, b2, b3, b4, b5⟩ := k
  refine ⟨by simp [PyData.showableAll, a1, b1], ?_, by simp only [PyData.depthAll]; omega, by simp [PyData.leavesShortAll, a4, b4], by simp only [PyData.weightAll]; omega⟩
  cases f with
  | true => simp only [if_true] at a2 b2 ⊢; simp [noLsts, a2, b2]
  | false => simp only [Bool.false_eq_true, if_false] at a2 b2 ⊢; simp [PyData.hasDictAll, a2, b2]
theorem Sgs.all {f : Bool} {dp w : Nat} : ∀ {ds : List PyData}, (∀ d ∈ ds, Sg f dp w d) → Sgs f dp (ds.length * (w + 1)) ds
  | [], _ => Sgs.nil.mono (Nat.zero_le _) (Nat.zero_le _)
  | d :: ds, h => (Sgs.cons (h d List.mem_cons_self) (Sgs.all fun x hx => h x (List.mem_cons_of_mem _ hx))).mono (Nat.le_refl _) (by
      rw [List.length_cons, Nat.succ_mul]; omega)
theorem Sgs.mem {f : Bool} {dp wt : Nat} : ∀ {ds : List PyData}, Sgs f dp wt ds → ∀ d ∈ ds, Sg f dp wt d
  | [], _, _, h => nomatch h
  | x :: xs, k, d, h => by
    obtain ⟨b1, b2, b3, b4, b5⟩ := k
    simp only [PyData.showableAll, PyData.depthAll, PyData.leavesShortAll, PyData.weightAll, Bool.and_eq_true] at b1 b3 b4 b5
    have b2' : (if f then noLst x = true else x.hasDict = false) ∧ (if f then noLsts xs = true else PyData.hasDictAll xs = false) := by
      cases f with
      | true => simpa [noLsts] using b2
      | false => simpa [PyData.hasDictAll] using b2
    rcases List.mem_cons.mp h with rfl | h
    · exact ⟨b1.1, b2'.1, by omega, b4.1, by omega⟩
    · exact Sgs.mem ⟨b1.2, b2'.2, by omega, b4.2, by omega⟩ d h
theorem Sg.tup {f : Bool} {dp wt : Nat} {ds : List PyData} (h : Sgs f dp wt ds) : Sg f (dp + 1) wt (.tuple ds) := by
  obtain ⟨b1, b2, b3, b4, b5⟩ := h
  refine ⟨by simpa [PyData.showable] using b1, ?_, by simp only [PyData.depth]; omega, by simpa [PyData.leavesShort] using b4, by simpa [PyData.weight] using b5⟩
  cases f with
  | true => simpa [noLst] using b2
  | false => simpa [PyData.hasDict] using b2
theorem Sg.parts {f : Bool} {dp wt : Nat} {ds : List PyData} (h : Sg f (dp + 1) wt (.tuple ds)) : Sgs f dp wt ds := by
  obtain ⟨b1, b2, b3, b4, b5⟩ := h
  refine ⟨by simpa [PyData.showable] using b1, ?_, by simp only [PyData.depth] at b3; omega, by simpa [PyData.leavesShort] using b4, by simpa [PyData.weight] using b5⟩
  cases f with
  | true => simpa [noLst] using b2
  | false => simpa [PyData.hasDict] using b2
theorem Sg.lst {dp wt : Nat} {ds : List PyData} (h : Sgs false dp wt ds) : Sg false (dp + 1) wt (.list ds) := by
  obtain ⟨b1, b2, b3, b4, b5⟩ := h
  exact ⟨by simpa [PyData.showable] using b1, by simpa [PyData.hasDict] using b2, by simp only [PyData.depth]; omega, by simpa [PyData.leavesShort] using b4, by simpa [PyData.weight] using b5⟩
theorem Sg.int {f : Bool} {i : Int} (h : i.natAbs < 10 ^ 30) : Sg f 0 100 (.int i) := by
  have k := Sh.big h
  exact ⟨k.show_, by cases f <;> rfl, k.dep, k.leaf, k.wgt⟩
theorem Sg.bool {f : Bool} {b : Bool} : Sg f 0 0 (.bool b) := ⟨rfl, by cases f <;> rfl, by simp [PyData.depth], rfl, by simp [PyData.weight]⟩
theorem Sg.non {f : Bool} : Sg f 0 0 .none := ⟨rfl, by cases f <;> rfl, by simp [PyData.depth], rfl, by simp [PyData.weight]⟩
theorem Sg.str {f : Bool} {s : Str} (h : s.cps.size ≤ 50) (h2 : (s.cps.toList.all fun c => decide (c < 16 ^ 8)) = true) : Sg f 0 50 (.str s) := ⟨rfl, by cases f <;> rfl, by simp [PyData.depth], by simpa [PyData.leavesShort] using h2, by simpa [PyData.weight] using h⟩
theorem Sg.dict : Sg true 1 0 (.dict []) := ⟨rfl, rfl, by simp [PyData.depth, PyData.depthKv], rfl, by simp [PyData.weight, PyData.weightKv]⟩
theorem Sg.ints {f : Bool} {xs : List Int} (n : Nat) (hn : xs.length ≤ n) (h : ∀ x ∈ xs, x.natAbs < 10 ^ 30) : Sg f 1 (n * 101) (eT eInt xs) := by
  have k := Sgs.all (f := f) (dp := 0) (w := 100) (ds := xs.map eInt) fun d hd => by
    obtain ⟨i, hi, rfl⟩ := List.mem_map.mp hd
    exact Sg.int (h i hi)
  rw [List.length_map] at k
  exact (Sg.tup k).mono (Nat.le_refl _) (Nat.mul_le_mul_right _ hn)
mutual
theorem noLst_pl0 : ∀ d : PyData, noLst d = true → pl0 d = true
  | .none, _ | .bool _, _ | .int _, _ | .str _, _ => rfl
  | .list ds, h => nomatch h
  | .tuple ds, h => noLsts_pl0 ds h
  | .dict _, h => h
theorem noLsts_pl0 : ∀ ds : List PyData, noLsts ds = true → pl0s ds = true
  | [], _ => rfl
  | d :: ds, h => by
    simp only [noLsts, Bool.and_eq_true] at h
    simp only [pl0s, noLst_pl0 d h.1, noLsts_pl0 ds h.2, Bool.and_self]
end
mutual
theorem noDict_plain : ∀ d : PyData, d.hasDict = false → d.plain = true
  | .none, _ | .bool _, _ | .int _, _ | .str _, _ => rfl
  | .list ds, h => noDicts_plain ds (by simpa [PyData.hasDict] using h)
  | .tuple ds, h => noDicts_plain ds (by simpa [PyData.hasDict] using h)
  | .dict _, h => by simp [PyData.hasDict] at h
theorem noDicts_plain : ∀ ds : List PyData, PyData.hasDictAll ds = false → PyData.plainAll ds = true
  | [], _ => rfl
  | d :: ds, h => by
    simp only [PyData.hasDictAll, Bool.or_eq_false_iff] at h
    simp only [PyData.plainAll, noDict_plain d h.1, noDicts_plain ds h.2, Bool.and_self]
end
theorem Sg.pl0 {f : Bool} {dp wt : Nat} {d : PyData} (h : Sg f dp wt d) : pl0 d = true := by
  have h2 := h.dic
  cases f with
  | true => exact noLst_pl0 d (by simpa using h2)
  | false => exact pl0_plain d (noDict_plain d (by simpa using h2))

/-! ### what a one-tuple shows -/
theorem cps_append (a b : Str) : (a ++ b).cps.toList = a.cps.toList ++ b.cps.toList := by
  show (Str.append a b).cps.toList = _
  unfold Str.append
  simp
theorem str_ext {a b : Str} (h : a.cps.toList = b.cps.toList) : a = b := by
  cases a; cases b; simp only [Str.mk.injEq]; exact Array.toList_inj.mp h
theorem repr_last (t : Str) : (reprText t).cps.toList.getLast? = some (reprQuote t) := by
  unfold reprText
  rw [Array.toList_push, List.getLast?_concat]
theorem quote_or (t : Str) : reprQuote t = 39 ∨ reprQuote t = 34 := by
  unfold reprQuote
  split
  · exact .inr rfl
  · exact .inl rfl
theorem shown_not_str {x : PyData} {t : Str} (h : ∀ s, x ≠ .str s) : x.shown ≠ PyData.shown (.str t) := by
  intro e
  have hl : x.shown.cps.toList.getLast? = some (reprQuote t) := by rw [e]; exact repr_last t
  have hq := quote_or t
  have last : ∀ (a b : Str) (c : Nat), b.cps.toList.getLast? = some c → (a ++ b).cps.toList.getLast? = some c := fun a b c hb => by
    rw [cps_append, List.getLast?_append, hb]; rfl
  cases x with
  | none =>
    rw [show (PyData.shown .none).cps.toList.getLast? = some 101 by decide +kernel, Option.some.injEq] at hl
    omega
  | bool b =>
    rw [show (PyData.shown (.bool b)).cps.toList.getLast? = some 101 by cases b <;> decide +kernel, Option.some.injEq] at hl
    omega
  | int i =>
    have hm := List.mem_of_getLast? hl
    rcases hq with q | q
    · rw [q] at hm; exact (shown_int_free_39 i).mp hm
    · rw [q] at hm; exact (shown_int_free_34 i).mp hm
  | str s => exact h s rfl
  | list ds =>
    have : (PyData.shown (.list ds)).cps.toList.getLast? = some 93 := by
      simp only [PyData.shown, listText]
      exact last _ _ _ (by decide +kernel)
    rw [this, Option.some.injEq] at hl
    omega
  | tuple ds =>
    have : (PyData.shown (.tuple ds)).cps.toList.getLast? = some 41 := by
      simp only [PyData.shown, tupleText]
      refine last _ _ _ ?_
      split <;> decide +kernel
    rw [this, Option.some.injEq] at hl
    omega
  | dict kvs =>
    have : (PyData.shown (.dict kvs)).cps.toList.getLast? = some 125 := by
      simp only [PyData.shown, dictText]
      exact last _ _ _ (by decide +kernel)
    rw [this, Option.some.injEq] at hl
    omega
theorem shown_one {x : PyData} {t : Str} (hs : ∀ s, x = .str s → PyData.shown (.str s) = PyData.shown (.str t) → s = t) : (PyData.tuple [x]).shown = (PyData.tuple [.str t]).shown ↔ x = .str t := by
  constructor
  · intro e
    have e2 : x.shown = PyData.shown (.str t) := by
      have : ∀ y : PyData, (PyData.tuple [y]).shown.cps.toList = ("(" : Str).cps.toList ++ y.shown.cps.toList ++ (",)" : Str).cps.toList := fun y => by
        simp only [PyData.shown, PyData.shownAll, tupleText, List.length_singleton, beq_self_eq_true, if_true]
        rw [cps_append, cps_append]; rfl
      have e3 := congrArg (fun z : Str => z.cps.toList) e
      simp only [this] at e3
      exact str_ext (List.append_cancel_left (List.append_cancel_right e3))
    by_cases h : ∃ s, x = .str s
    · obtain ⟨s, rfl⟩ := h
      rw [hs s rfl e2]
    · exact absurd e2 (shown_not_str fun s z => h ⟨s, z⟩)
  · rintro rfl; rfl
/-- the strings that may stand first -/
def HdS (S : List Str) (v : PyData) : Prop := ∀ s r, v = .tuple (.str s :: r) → s ∈ S
def okS (S T : List Str) : Bool := S.all fun s => T.all fun t => decide (PyData.shown (.str s) = PyData.shown (.str t)) == decide (s = t)
theorem head_in {f : Bool} {S T : List Str} {dp wt : Nat} (hST : okS S T = true) {x : PyData} {r : List PyData} (h : Sg f (dp + 1) wt (.tuple (x :: r))) (hS : HdS S (.tuple (x :: r))) (hdp : dp ≤ 58 := by decide) (hw : 42 * (wt + 1) + 40 ≤ 16777216 := by decide) :
    ∃ z, reprO (.tuple [x]) = some z ∧ ∀ t ∈ T, (z = (PyData.tuple [.str t]).shown ↔ x = .str t) := by
  have hx := h.parts.mem x List.mem_cons_self
  have h1 : Sg f (dp + 1) (wt + 1 + 0) (.tuple [x]) := Sg.tup (Sgs.cons hx (Sgs.nil.mono (Nat.zero_le _) (Nat.le_refl _)))
  refine ⟨_, (h1.mono (by omega) (Nat.le_refl _)).rep (by omega), fun t ht => shown_one fun s e1 e2 => ?_⟩
  subst e1
  have := List.all_eq_true.mp (List.all_eq_true.mp hST s (hS s r rfl)) t ht
  rw [beq_iff_eq, decide_eq_decide] at this
  exact this.mp e2
end
end Pz

namespace Pz
open PySem PySem.Spec PyProof.Rows L2
section
variable {α β γ δ κ ρ ι : Type} {ea : α → PyData} {eb : β → PyData} {ec : γ → PyData} {er : ρ → PyData} {ei : ι → PyData} {X : Cx} {R : Res} {Γ Γ' : List Slot} {e a b c : Expr} {st : Stmt} {rest A B body : List Stmt} {pos : Pos} {out : κ → OutD}
/-! ### a, b = [..], ..: the first is an own list -/
theorem q_par2p (i j : Nat) {x y : Str} {a b : Expr} {px py pt : Pos} {kt k2 pt2} {ma : M (List α)} {mb : M β} (ha : EF X R Γ a ea ma) (hb : EJ X R Γ b eb mb) (hn : NL eb) (hc : X.calm = true) (hN : X.N.Nodup) (hi : X.N[i]? = some x := by rfl) (hj : X.N[j]? = some y := by rfl) (hij : i ≠ j := by decide)
    (hx : X.env.scope.names.lookup x = some .local := by rfl) (hy : X.env.scope.names.lookup y = some .local := by rfl)
    (hw : swappedStores [.Tuple [.Name x px, .Name y py] kt pt] (.Tuple [a, b] k2 pt2) X.env = pure (some [x, y]) := by rfl)
    (hs : swapsWithSole [.Tuple [.Name x px, .Name y py] kt pt] (.Tuple [a, b] k2 pt2) pos.line X.env = pure false := by rfl)
    (hs1 : starEach [a, b] X.env = (false, eval a X.env) :: starEach [b] X.env := by rfl) (hs2 : starEach [b] X.env = (false, eval b X.env) :: starEach [] X.env := by rfl) :
    QJ X R Γ (.Assign [.Tuple [.Name x px, .Name y py] kt pt] (.Tuple [a, b] k2 pt2) pos) (fun p : List α × β => .nx ((Γ.set i (.ow (eL ea p.1))).set j (.fz (eb p.2)))) (bindM ma fun u => bindM mb fun v => pureM (u, v)) := by
  refine PS.weak (ps_par hc hN hi hj hij hx hy (pa_cons ha (pa_cons hb pa_nil hs2) hs1) hw hs) fun D σ H ⟨O, H0, ow, st, z, st', rel, ok, e, q⟩ => ?_
  obtain ⟨u, s1, e1, e2⟩ := bind_some e
  obtain ⟨v, s2, e3, e4⟩ := bind_some e2
  obtain ⟨rfl, rfl⟩ := pure_some e4
  refine ⟨O, H0, ow, st, u, s1, rel, ok, e1, fun p vs H1 n1 k1 o1 ep r1 => ?_⟩
  have rel1 := rel.grow k1 (okZ o1)
  refine ⟨O, H0, ow, s1, v, s2, rel1, o1, e3, fun vx H2 k2 o2 r2 => ?_⟩
  have np : ¬ Pz.avo O Γ ow p := rel.ad.fresh n1
  have ep2 : H2 p = some (.lst vs) := k2 _ _ (fun z => np (rel.zavo z)) ep
  have kA := rel1.keepA k2
  have r1' : RpAll (avp (Pz.avo O Γ ow) p) H2 vs (u.map ea) := r1.keep fun a o na h => kA a o (fun z => na (.inl z)) h
  obtain ⟨rel2, stp⟩ := rel.setOw i n1 (k1.trans k2) (okZ o2) ep2 r1'
  have r2' : Rp (Pz.avo O (Γ.set i (.ow (.list (u.map ea)))) (fun l => if l = i then p else ow l)) H2 vx (eb v) := by
    refine noL_rp (fun a xs na ha za => ?_) _ _ (hn v) r2
    rcases za with za | ⟨l, d, e5, e6⟩
    · exact na (.inl za)
    · by_cases hl : l = i
      · dsimp only at e6
        rw [if_pos hl] at e6
        rw [← e6, ep2] at ha
        cases ha
      · dsimp only at e6
        rw [if_neg hl] at e6
        rw [List.getElem?_set_ne (fun z => hl z.symm)] at e5
        exact na (.inr ⟨l, d, e5, e6⟩)
  refine ⟨.ref p, vx, rfl, q _ _ H2 (rel2.setFz j r2') o2 ⟨rel.keepA (k1.trans k2), fun l d e5 => stp.sub l d (set_noow _ _ e5)⟩⟩
def asOI : PyData → Option (Option Int)
  | .none => some none
  | .int i => some (some i)
  | _ => none
theorem asOI_eq (x : PyData) (y : Option Int) (q : asOI x = some y) : x = eO eInt y := by cases x <;> cases q <;> rfl
end
end Pz

namespace Pz
open PySem PySem.Spec PyProof.Rows L2
theorem Sat.forR {β : Type} {f : β → Int → M β} {I : Int → β → Prop} : ∀ (m : Nat) {lo hi : Int} {b0 : β}, (hi - lo).toNat = m → lo ≤ hi → I lo b0 → (∀ i b, lo ≤ i → i < hi → I i b → Sat (f b i) (I (i + 1))) → Sat (forM' f (irange lo hi) b0) (I hi)
  | 0, lo, hi, b0, e, hl, h0, _ => by
    have : lo = hi := by omega
    subst this
    rw [irange_nil (Int.le_refl _)]
    exact .pure h0
  | m + 1, lo, hi, b0, e, hl, h0, h => by
    rw [irange_cons (by omega)]
    unfold forM'
    exact .bind2 (h lo b0 (Int.le_refl _) (by omega) h0) fun b hb => Sat.forR m (by omega) (by omega) hb fun i b hi => h i b (by omega)
theorem Sgs.len {f : Bool} {dp wt : Nat} : ∀ {ds : List PyData}, Sgs f dp wt ds → ds.length ≤ wt
  | [], _ => Nat.zero_le _
  | d :: ds, h => by
    have h1 : PyData.weightAll (d :: ds) ≤ wt := h.wgt
    have aux : ∀ l : List PyData, l.length ≤ PyData.weightAll l := by
      intro l
      induction l with
      | nil => simp
      | cons a l ih => simp only [List.length_cons, PyData.weightAll]; omega
    have := aux (d :: ds)
    omega
end Pz

namespace Lw
open PySem PySem.Spec PyProof.Rows L2 Pz
def topS (i : Nat) : Stmt := PySem.Challenge.pw_lotsoflots_k80_whole_color_papers.main.body.getD i (.Pass ⟨0, 0, 0, 0⟩)
abbrev sSource : Stmt := topS 13
abbrev sPick : Stmt := topS 14
theorem scPick : FnScope ["source", "most", "cells", "others", "lap", "stirred"] ["source", "most"] (defScope sPick) := ⟨rfl, rfl, rfl, by decide +kernel, rfl, by decide +kernel, by decide +kernel⟩
section
variable {P : Program} {w : World} {K : PySem.W.Frag} {mg : Str → Option Value} {base : Heap}
theorem ok_pick {f : Addr} {fd : FuncData} (F : Fun K "_law_pick" "_law_pick" sPick f fd) (mlen : mg "len" = none) (mint : mg "int" = none) :
    FnG P w K mg base 1 f fd ["source", "most"] (SpM (fun p : Int × Unit => [.src, .fz (eInt p.1)]) eInt (fun p => pickM p.1)) := by
  refine g_def F scPick (fun vs H Q E ⟨R, O, a, st, r, st', _, _, _, h, _⟩ => by rw [h.length]; rfl) (fun cdv A above s H vs Q E hG hr h => ?_)
  obtain ⟨R, O, ⟨most, u⟩, st, r, st', hz, hd, ok, hl, e, q⟩ := h
  have hu := hu_of hr
  cases hl with
  | cons h1 h2 =>
  cases h2 with
  | cons h2 h3 =>
  cases h3
  obtain ⟨a, c, rfl, rfl⟩ := h1
  cases (show Rp O H _ (.int most) from h2)
  have nac : a ≠ c := (show SrcAt a c st H from ok).ne
  have done : ∀ z v H', pickM most st = some (z, v) → okR (some (a, c)) v H' → Keep (Zr (some (a, c))) H H' → Q (.int z) H' := fun z v H' e1 o1 k1 => by
    have e2 : some (z, v) = some (r, st') := e1.symm.trans e
    cases e2
    exact q _ H' k1 o1 (.int _)
  refine ⟨_, pss_cons (ps_if (pt_cmpR op_lt (pv 1) pe_int (nomark _)) (pss_one (ps_ret pe_int)) pss_nil)
    (pss_cons (ps_set (i := 2) scPick.nd rfl (.inl rfl) (pe_dget hu (pv 0) pe_str (fun _ _ => rfl)))
    (pss_cons (ps_while PassesOwn.never (PW.pt (pw_and (pt_cmpR op_lt (pe_dget hu (pv 0) pe_str (fun _ _ => rfl)) pe_int (nomark _)) (pw_and1 (pt_cmpR op_gt (pe_callB call_len_seq (by rfl) mlen PySem.boot_len (pa_cons (pv 2) pa_nil)) pe_int (nomark _)))))
      (pss_one (ps_dput hu (pv 0) pe_str (pe_bm0 PySem.F.plainAttrs_list PySem.F.slot_list_pop PySem.F.type_list_pop mt_pop (pv 2)) rfl)))
    (PSs.weak (t' := if 2 ≤ most ∧ most < 1073741824 then tDrawn a c most st H Q else fun _ _ _ => False) (pss_cons (ps_set (i := 3) scPick.nd rfl (.inl rfl) (pe_dget hu (pv 0) pe_str (fun _ _ => rfl)))
    (pss_cons (ps_if (pt_cmpR op_gt (pv 3) pe_int (nomark _)) (pss_cons (ps_dput hu (pv 0) pe_str (pe_op op_fdivN (pv 3) (pv 1)) rfl)
        (pss_one (ps_ret (pe_op op_modN (pe_callTy call_int1 (by rfl) mint (by decide +kernel) (pa_cons (pv 3) pa_nil)) (pv 1))))) pss_nil)
    (pss_cons (ps_dput hu (pv 0) pe_str (pe_op op_add (pe_dget hu (pv 0) pe_str (fun _ _ => rfl)) pe_int) rfl)
    (pss_cons (ps_set (i := 4) scPick.nd rfl (.inl rfl) (pe_dget hu (pv 0) pe_str (fun _ _ => rfl)))
    (pss_cons (ps_set (i := 5) scPick.nd rfl (.inl rfl) (pe_op op_modN (pe_callTy call_int1 (by rfl) mint (by decide +kernel) (pa_cons (pe_op op_add (pe_dget hu (pv 0) pe_str (fun _ _ => rfl)) (pe_op op_mul (pv 4) pe_int)) pa_nil)) pe_int))
    (pss_cons (ps_set (i := 5) scPick.nd rfl (.inl rfl) (pe_op op_modN (pe_callTy call_int1 (by rfl) mint (by decide +kernel) (pa_cons (pe_op op_add (pe_op op_mul (pv 5) (pv 5)) (pe_op op_mul (pv 4) pe_int)) pa_nil)) pe_int))
    (pss_one (ps_ret (pe_op op_modN (pe_callTy call_int1 (by rfl) mint (by decide +kernel) (pa_cons (pe_op op_fdivN (pv 5) pe_int) pa_nil)) (pv 1)))))))))) (fun D σ H' hT => ?tail)))), ?_⟩
  case tail =>
    by_cases hm : 2 ≤ most ∧ most < 1073741824
    · rw [if_pos hm] at hT
      obtain ⟨cs, l, rfl, hS, hC, hdr, kH, back⟩ := hT
      have hp : pickM most st = (if 1 < l then some (l.fmod most, ⟨cs, l.fdiv most, st.mixed, st.turn⟩) else
          some (((((((st.mixed + (st.turn + 1) * 104729).fmod 998244353) * ((st.mixed + (st.turn + 1) * 104729).fmod 998244353) + (st.turn + 1) * 17).fmod 2147483647).fdiv 16).fmod most), ⟨cs, l, st.mixed, st.turn + 1⟩)) := by
        unfold pickM
        rw [if_neg (by omega), if_neg (by omega), hdr]
      have kA : ∀ (H1 : Hp) (o : HO), Keep (Zr (some (a, c))) H H1 → Keep (Zr (some (a, c))) H (upd H1 a o) := fun H1 o k b u n e => by rw [upd_ne (fun z => n (.inl z))]; exact k b u n e
      refine ⟨_, rfl, a, .int l, rfl, DGet.k (k := .inr "left") hS, ?_⟩
      refine ⟨_, rfl, _, _, rfl, rfl, _, rfl, ?_⟩
      by_cases h1 : 1 < l
      · rw [decide_eq_true h1]
        rw [if_pos h1] at hp
        refine iteT ⟨_, rfl, _, rfl, _, _, rfl, rfl, ⟨by omega, by omega⟩, _, rfl, a, _, rfl, DPut.k (k := .inr "left") hS (srcKv_few _ _ _ _), ?_⟩
        refine ⟨_, rfl, .inl ⟨_, rfl, _, rfl, _, _, rfl, rfl, by omega, back _ _ (done _ _ _ hp ?_ (kA _ _ kH))⟩⟩
        show SrcAt a c _ _
        exact ⟨by rw [upd_same]; rfl, by rw [upd_ne nac.symm]; exact hC, nac⟩
      · rw [decide_eq_false h1]
        rw [if_neg h1] at hp
        refine iteF ⟨_, rfl, a, _, rfl, DGet.k (k := .inr "turn") hS, _, _, rfl, rfl, _, rfl, a, _, rfl, DPut.k (k := .inr "turn") hS (srcKv_few _ _ _ _), ?_⟩
        have hS2 : (upd H' a (.dK (putK (srcKv c l st.mixed st.turn) (.inr "turn") (.int (st.turn + 1))))) a = some (.dK (srcKv c l st.mixed (st.turn + 1))) := by rw [upd_same]; rfl
        refine ⟨_, rfl, a, _, rfl, DGet.k (k := .inr "turn") hS2, ?_⟩
        refine ⟨_, rfl, a, _, rfl, DGet.k (k := .inr "mixed") hS2, _, rfl, _, _, rfl, rfl, .inr ⟨by decide, by decide⟩, _, _, rfl, rfl, .inl ⟨_, rfl, _, _, rfl, rfl, (by decide : (998244353 : Int) ≠ 0), ?_⟩⟩
        have b1 := Int.fmod_nonneg_of_pos (st.mixed + (st.turn + 1) * 104729) (b := 998244353) (by decide)
        have b2 := Int.fmod_lt_of_pos (st.mixed + (st.turn + 1) * 104729) (b := 998244353) (by decide)
        refine ⟨_, rfl, _, rfl, _, _, rfl, rfl, .inl ⟨by omega, by omega⟩, _, rfl, _, _, rfl, rfl, .inr ⟨by decide, by decide⟩, _, _, rfl, rfl, .inl ⟨_, rfl, _, _, rfl, rfl, (by decide : (2147483647 : Int) ≠ 0), ?_⟩⟩
        refine ⟨_, rfl, _, _, rfl, rfl, ⟨by decide, by decide⟩, .inl ⟨_, rfl, _, rfl, _, _, rfl, rfl, by omega, back _ _ (done _ _ _ hp ?_ (kA _ _ kH))⟩⟩
        show SrcAt a c _ _
        exact ⟨hS2, by rw [upd_ne nac.symm]; exact hC, nac⟩
    · rw [if_neg hm] at hT
      exact hT.elim
  have S0 : SrcAt a c st H := ok
  -- if most < 2
  refine ⟨_, rfl, _, _, rfl, rfl, _, rfl, ?_⟩
  by_cases h2 : most < 2
  · rw [decide_eq_true h2]
    exact iteT (done 0 st H (by unfold pickM; rw [if_pos h2]) ok (Keep.refl H))
  have hm : 2 ≤ most ∧ most < 1073741824 := by
    refine ⟨by omega, ?_⟩
    have e' : pickM most st = some (r, st') := e
    unfold pickM at e'
    rw [if_neg h2] at e'
    by_cases h3 : 1073741824 ≤ most
    · rw [if_pos h3] at e'; cases e'
    · omega
  rw [decide_eq_false h2]
  refine iteF ?_
  refine ⟨_, rfl, a, .ref c, rfl, DGet.k (k := .inr "cells") S0.dic, ?_⟩
  -- the loop
  have kA : ∀ (H1 : Hp) (o : HO), Keep (Zr (some (a, c))) H H1 → Keep (Zr (some (a, c))) H (upd H1 a o) := fun H1 o k b u n e => by rw [upd_ne (fun z => n (.inl z))]; exact k b u n e
  have kC : ∀ (H1 : Hp) (o : HO), Keep (Zr (some (a, c))) H H1 → Keep (Zr (some (a, c))) H (upd H1 c o) := fun H1 o k b u n e => by rw [upd_ne (fun z => n (.inr z))]; exact k b u n e
  refine ⟨fun m σ' H' => ∃ cs l, m = cs.length ∧ σ' = [some (.ref a), some (.int most), some (.ref c), none, none, none] ∧ H' a = some (.dK (srcKv c l st.mixed st.turn)) ∧ H' c = some (.lst (cs.map V.int)) ∧ drawC cs.length cs l = drawC st.cells.length st.cells st.left ∧ Keep (Zr (some (a, c))) H H',
    ⟨_, st.cells, st.left, rfl, rfl, S0.dic, S0.cel, rfl, Keep.refl H⟩, ?_⟩
  rintro m σ' H' ⟨cs, l, rfl, rfl, hS, hC, hdr, kH⟩
  refine ⟨_, rfl, a, .int l, rfl, DGet.k (k := .inr "left") hS, _, _, rfl, rfl, _, rfl, ?_⟩
  by_cases hl : l < 2
  · rw [decide_eq_true hl]
    refine iteT ⟨_, rfl, c, _, rfl, .inl (SqL.of hC), _, _, rfl, rfl, _, rfl, ?_⟩
    rcases List.eq_nil_or_concat cs with rfl | ⟨ini, y, rfl⟩
    · refine iteF ?_
      rw [if_pos hm]
      exact ⟨[], l, rfl, hS, hC, by rw [← hdr]; exact drawC_nil _ _, kH, fun _ _ q => q⟩
    · rw [List.concat_eq_append] at *
      rw [show decide ((0 : Int) < (((ini ++ [y]).map V.int).length : Int)) = true from decide_eq_true (by simp)]
      refine iteT ⟨fun σ2 H2 => σ2 = [some (.ref a), some (.int most), some (.ref c), none, none, none] ∧ H2 a = some (.dK (srcKv c y st.mixed st.turn)) ∧ H2 c = some (.lst (ini.map V.int)) ∧ drawC ini.length ini y = drawC st.cells.length st.cells st.left ∧ Keep (Zr (some (a, c))) H H2, ?_, ?_⟩
      · rintro σ2 H2 ⟨rfl, g1, g2, g3, g4⟩
        exact ⟨ini.length, by simp, ini, y, rfl, rfl, g1, g2, g3, g4⟩
      · refine ⟨_, rfl, tyL hC, c, _, .int y, rfl, rfl, hC, by simp, _, rfl, a, _, rfl, DPut.k (k := .inr "left") (by rw [upd_ne nac]; exact hS) (srcKv_few _ _ _ _), rfl, ?_, ?_, ?_, ?_⟩
        · rw [upd_same]; rfl
        · rw [upd_ne nac.symm, upd_same]; simp
        · rw [← hdr, drawC_snoc _ _ _ hl]
        · exact kA _ _ (kC _ _ kH)
  · rw [decide_eq_false hl]
    refine iteF (iteF ?_)
    rw [if_pos hm]
    exact ⟨cs, l, rfl, hS, hC, by rw [← hdr]; exact drawC_stop _ _ _ hl, kH, fun _ _ q => q⟩
end
end Lw

namespace Lw
open PySem PySem.Spec PyProof.Rows L2 Pz
theorem scSource : FnScope ["script", "stirred", "cell", "cells"] ["script"] (defScope sSource) := ⟨rfl, rfl, rfl, by decide +kernel, rfl, by decide +kernel, by decide +kernel⟩
section
variable {P : Program} {w : World} {K : PySem.W.Frag} {mg : Str → Option Value} {base : Heap}
theorem ok_source {f : Addr} {fd : FuncData} (F : Fun K "_law_open_cells" "_law_open_cells" sSource f fd) (mabs : mg "abs" = none) (mint : mg "int" = none) :
    FnG P w K mg base 1 f fd ["script"] (spSource K) := by
  refine g_def F scSource (fun vs H Q E ⟨a, ns, e, _⟩ => by rw [e]; rfl) (fun cdv A above s H vs Q E hG hr h => ?_)
  obtain ⟨a, ns, rfl, hS, hlen, q⟩ := h
  refine ⟨_, pss_cons (ps_set (i := 1) scSource.nd rfl (.inl rfl) pe_int)
    (pss_cons (ps_for PassesOwn.never rfl (pi_list (pv 0)) (pg_name (i := 2) scSource.nd rfl (.inl rfl)) (pss_one (ps_set (i := 1) scSource.nd rfl (.inl rfl)
      (pe_op op_modN (pe_callTy call_int1 (by rfl) mint (by decide +kernel) (pa_cons (pe_op op_add (pe_op op_add (pe_op op_mul (pv 1) pe_int) (pe_op op_mul (pv 2) pe_int)) pe_int) pa_nil)) pe_int))))
    (pss_cons (ps_setLc (i := 3) (own := [("cell", 2)]) (g := gName 2) (tt := tYes) rfl scSource.nd rfl rfl (sw_true rfl rfl rfl (by decide +kernel)) (pi_list (pv 0)) (blkOk_by (N := ["script", "stirred", "cell", "cells"]) (sc := defScope sSource) (by decide +kernel)) (fun _ _ _ _ _ => pg_name (i := 2) scSource.nd rfl (Or.inl rfl)) (fun _ _ _ _ _ => pts_nil)
      (fun _ _ _ _ _ => pe_callB call_abs (by rfl) mabs (by decide +kernel) (pa_cons (pv 2) pa_nil)))
    (pss_one (ps_ret (pe_disp (pps_cons pe_str (pe_revL (pv 3)) (pps_cons pe_str pe_int (pps_cons pe_str (pv 1) (pps_cons pe_str pe_int pps_nil)))) (by rfl) (by rfl) (fun z => by cases z) (by decide)))))), ?_⟩
  refine ⟨_, rfl, a, rfl, ⟨_, hS⟩, for_list (xs := ns.map V.int) (fun i σ' H' => H' = H ∧ ∃ z y, σ' = [some (.ref a), some (.int z), y, none]) ⟨rfl, 11, none, rfl⟩ (fun i σ' H' _ h => by rw [h.1]; exact hS) ?_ ?_⟩
  · rintro i x σ' H' hx ⟨rfl, z, y, rfl⟩
    obtain ⟨n, _, rfl⟩ : ∃ n, ns[i]? = some n ∧ V.int n = x := by simpa using hx
    exact ⟨_, rfl, _, _, rfl, rfl, .inr ⟨by decide, by decide⟩, _, rfl, _, _, rfl, rfl, .inr ⟨by decide, by decide⟩, _, _, rfl, rfl, _, _, rfl, rfl, .inl ⟨_, rfl, _, _, rfl, rfl, (by decide : (2147483629 : Int) ≠ 0), rfl, _, _, rfl⟩⟩
  · rintro σ' H' ⟨rfl, z, y, rfl⟩
    refine ⟨_, rfl, a, rfl, ⟨_, hS⟩, fun D hD => lc_list (K := K) (a := a) (xs := ns.map V.int) (fun i H2 => Same H' H2 ∧ ∃ acc : List Int, H2 D = some (.lst (acc.map V.int)) ∧ acc.length = i) ⟨same_new hD, [], upd_same, rfl⟩ (fun i H2 _ h => h.1.seq hS) ?_ ?_⟩
    · rintro i x H2 hx ⟨sm, acc, hacc, rfl⟩
      obtain ⟨n, hn, rfl⟩ : ∃ n, ns[acc.length]? = some n ∧ V.int n = x := by simpa using hx
      have hi := (List.getElem?_eq_some_iff.mp hn).1
      refine ⟨rfl, ?_⟩
      show tYes _ H2 _
      unfold tYes
      refine iteT ?_
      refine ⟨_, rfl, n, rfl, _, hacc, by rw [List.length_map]; exact Nat.lt_of_lt_of_le hi (Nat.le_trans hlen (by decide)), fun b o e => ?_, acc ++ [if n < 0 then -n else n], ?_, by simp⟩
      · rw [upd_ne (ne_of_none e hD)]; exact sm b o e
      · rw [upd_same]; simp
    · rintro H2 ⟨sm, acc, hacc, _⟩
      intro p np
      have npD : D ≠ p := ne_of_none hacc np
      refine ⟨_, rfl, D, _, rfl, .inl (.inl (by rw [upd_ne npD]; exact hacc)), fun c nc => ?_⟩
      have ncp : c ≠ p := fun z => by rw [z, upd_same] at nc; cases nc
      have ncD : c ≠ D := fun z => by rw [z, upd_ne npD, hacc] at nc; cases nc
      have hc0 : H2 c = none := by rw [upd_ne ncp] at nc; exact nc
      refine ⟨.int z, rfl, by rw [upd_ne ncp.symm, upd_same], srcKv c 1 z 0, rfl, (by show 4 ≤ 15; decide), ?_⟩
      have back : ∀ (x : Addr), H2 x = none → H' x = none := fun x n => by
        cases e : H' x with
        | none => rfl
        | some o => rw [sm x o e] at n; cases n
      refine q p c ⟨acc.reverse, 1, z, 0⟩ _ (back p np) (back c hc0) ⟨by rw [upd_same]; rfl, by rw [upd_ne ncp, upd_same, List.map_reverse], ncp.symm⟩ fun b o e => ?_
      have e2 := sm b o e
      rw [upd_ne (ne_of_none e2 np), upd_ne (ne_of_none e2 hc0), upd_ne (ne_of_none e2 np)]
      exact e2
end
end Lw

namespace Lw
open PySem PySem.Spec PyProof.Rows L2 Pz
abbrev sOf : Stmt := topS 15
theorem scOf : FnScope ["source", "some"] ["source", "some"] (defScope sOf) := ⟨rfl, rfl, rfl, by decide +kernel, rfl, by decide +kernel, by decide +kernel⟩
section
variable {P : Program} {w : World} {K : PySem.W.Frag} {mg : Str → Option Value} {base : Heap}
theorem ok_of {f : Addr} {fd : FuncData} (F : Fun K "_law_of" "_law_of" sOf f fd) (B : Bl mg) {g : Addr} {gd : FuncData} (C : Cal K mg "_law_pick" g gd ["source", "most"])
    (G : FnG P w K mg base 1 g gd ["source", "most"] (SpM (fun p : Int × Unit => [.src, .fz (eInt p.1)]) eInt (fun p => pickM p.1))) : OfG P w K mg base f fd := by
  constructor
  · intro α ea
    refine g_ok F scOf (fun p : List α × Unit => [.src, .fz (eL ea p.1)]) ea (fun p => ofM p.1) (fun p => [.src, .fz (eL ea p.1)]) (fun _ => rfl) (fun _ => rfl) ?_
    intro cdv A above s H E R p hG hr
    exact s_ret0 (e_ixL (e_var 1 (eL ea) p.1) (e_cs1 0 (G.mono (by decide)) hG hr C.mg C.kp C.bd (e_len B.b_len bt_len (e_var 1 (eL ea) p.1))))
  · intro α ea
    refine g_ok F scOf (fun p : List α × Unit => [.src, .fz (eT ea p.1)]) ea (fun p => ofM p.1) (fun p => [.src, .fz (eT ea p.1)]) (fun _ => rfl) (fun _ => rfl) ?_
    intro cdv A above s H E R p hG hr
    exact s_ret0 (e_ixT (e_var 1 (eT ea) p.1) (e_cs1 0 (G.mono (by decide)) hG hr C.mg C.kp C.bd (e_lenT B.b_len bt_len (e_var 1 (eT ea) p.1))))
end
end Lw


namespace Lw
open PySem PySem.Spec PyProof.Rows L2 Pz
abbrev m__law_pick := pickM
section
variable {P : Program} {w : World} {K : PySem.W.Frag} {mg : Str → Option Value} {base : Heap}

abbrev s_is_plain_count : Stmt := topS 1
def N_is_plain_count : List Str := ["value"]
theorem sc_is_plain_count : FnScope N_is_plain_count ["value"] (defScope s_is_plain_count) := ⟨rfl, rfl, rfl, by decide +kernel, rfl, by decide +kernel, by decide +kernel⟩
def m_is_plain_count (v_value : PyData) : M Bool := (Pz.bindM (Pz.bindM (pureM v_value) fun (x1 : PyData) => pureM (isTy "int" (eD x1))) fun (x4 : Bool) => if x4 then (Pz.bindM (Pz.bindM (pureM v_value) fun (x2 : PyData) => pureM (isTy "bool" (eD x2))) fun (x3 : Bool) => pureM (!x3)) else pureM false)
theorem ok_is_plain_count {f : Addr} {fd : FuncData} (F : Fun K "is_plain_count" "is_plain_count" s_is_plain_count f fd) (B : Bl mg) :
    FnG P w K mg base 1 f fd ["value"] (SpM (fun p : PyData × Unit => [.fz (eD p.1)]) eBool (fun p : PyData × Unit => m_is_plain_count p.1)) := by
  refine g_ok F sc_is_plain_count (fun p : PyData × Unit => [.fz (eD p.1)]) eBool (fun p : PyData × Unit => m_is_plain_count p.1) (fun p => [.fz (eD p.1)]) (fun _ => rfl) (fun _ => rfl) ?_
  intro cdv A above s H E R p hG hr
  obtain ⟨v_value, uu⟩ := p
  have sc := sc_is_plain_count
  exact (s_ret0 (e_and (e_isi (ea := eD) (fun K d => kit_int d) B.b_isinstance B.b_int bt_int (e_var 0 eD v_value)) (e_one1 (e_not (e_isi (ea := eD) (fun K d => kit_bool d) B.b_isinstance B.b_bool bt_bool (e_var 0 eD v_value))))))

abbrev s_color_of_pair : Stmt := topS 3
def N_color_of_pair : List Str := ["pairs", "a", "b", "low", "high"]
theorem sc_color_of_pair : FnScope N_color_of_pair ["pairs", "a", "b"] (defScope s_color_of_pair) := ⟨rfl, rfl, rfl, by decide +kernel, rfl, by decide +kernel, by decide +kernel⟩
def m_color_of_pair (v_pairs : (Int × Int × (List Int) × Unit)) (v_a : Int) (v_b : Int) : M Int := (Pz.bindM (Pz.bindM (Pz.bindM (pureM v_a) fun (x2 : Int) => (Pz.bindM (pureM v_b) fun (x3 : Int) => optM (some (min x2 x3)))) fun (x6 : Int) => (Pz.bindM (Pz.bindM (pureM v_a) fun (x4 : Int) => (Pz.bindM (pureM v_b) fun (x5 : Int) => optM (some (max x4 x5)))) fun (x7 : Int) => pureM (x6, x7))) fun (r1 : (Int × Int)) => (Pz.bindM (Pz.bindM (pureM v_pairs) fun (x8 : (Int × Int × (List Int) × Unit)) => pureM (x8.2.2.1)) fun (x17 : (List Int)) => (Pz.bindM (Pz.bindM (Pz.bindM (Pz.bindM (pureM r1.2) fun (x11 : Int) => (Pz.bindM (Pz.bindM (pureM r1.2) fun (x9 : Int) => (Pz.bindM (pureM (1 : Int)) fun (x10 : Int) => pureM (x9 - x10))) fun (x12 : Int) => optM (mulO x11 x12))) fun (x13 : Int) => (Pz.bindM (pureM (2 : Int)) fun (x14 : Int) => optM (divO x13 x14))) fun (x15 : Int) => (Pz.bindM (pureM r1.1) fun (x16 : Int) => pureM (x15 + x16))) fun (x18 : Int) => optM (atI x17 x18))))
theorem ok_color_of_pair {f : Addr} {fd : FuncData} (F : Fun K "color_of_pair" "color_of_pair" s_color_of_pair f fd) (B : Bl mg) :
    FnG P w K mg base 1 f fd ["pairs", "a", "b"] (SpM (fun p : (Int × Int × (List Int) × Unit) × Int × Int × Unit => [.fz ((eP (eC eInt (eC eInt (eC (eT eInt) eU)))) p.1), .fz (eInt p.2.1), .fz (eInt p.2.2.1)]) eInt (fun p : (Int × Int × (List Int) × Unit) × Int × Int × Unit => m_color_of_pair p.1 p.2.1 p.2.2.1)) := by
  refine g_ok F sc_color_of_pair (fun p : (Int × Int × (List Int) × Unit) × Int × Int × Unit => [.fz ((eP (eC eInt (eC eInt (eC (eT eInt) eU)))) p.1), .fz (eInt p.2.1), .fz (eInt p.2.2.1)]) eInt (fun p : (Int × Int × (List Int) × Unit) × Int × Int × Unit => m_color_of_pair p.1 p.2.1 p.2.2.1) (fun p => [.fz ((eP (eC eInt (eC eInt (eC (eT eInt) eU)))) p.1), .fz (eInt p.2.1), .fz (eInt p.2.2.1), .un, .un]) (fun _ => rfl) (fun _ => rfl) ?_
  intro cdv A above s H E R p hG hr
  obtain ⟨v_pairs, v_a, v_b, uu⟩ := p
  have sc := sc_color_of_pair
  exact (s_step (Γ1 := fun (r1 : (Int × Int)) => [.fz ((eP (eC eInt (eC eInt (eC (eT eInt) eU)))) v_pairs), .fz (eInt v_a), .fz (eInt v_b), .fz (eInt r1.1), .fz (eInt r1.2)]) (q_par2 3 4 (e_b2 (ea := eInt) (eb := eInt) (ec := eInt) (f := fun x y => some (min x y)) (call_min2 rfl) v_min2 B.b_min bt_min (e_var 1 eInt v_a) (e_var 2 eInt v_b)) (e_b2 (ea := eInt) (eb := eInt) (ec := eInt) (f := fun x y => some (max x y)) (call_max2 rfl) v_max2 B.b_max bt_max (e_var 1 eInt v_a) (e_var 2 eInt v_b)) rfl sc.nd) (fun (r1 : (Int × Int)) => (s_ret0 (e_ixT (e_ixP (ec := (eT eInt)) (f := (eC eInt (eC eInt (eC (eT eInt) eU)))) (fun p => p.2.2.1) 2 (ha := (e_var 0 (eP (eC eInt (eC eInt (eC (eT eInt) eU)))) v_pairs))) (e_add (e_div (e_mul (e_var 4 eInt r1.2) (e_sub (e_var 4 eInt r1.2) e_int)) e_int) (e_var 3 eInt r1.1))))))

abbrev s_longer_one_colored : Stmt := topS 4
def N_longer_one_colored : List Str := ["pairs", "lots", "color", "found", "lot", "first", "b", "a"]
theorem sc_longer_one_colored : FnScope N_longer_one_colored ["pairs", "lots", "color"] (defScope s_longer_one_colored) := ⟨rfl, rfl, rfl, by decide +kernel, rfl, by decide +kernel, by decide +kernel⟩
def m_longer_one_colored (v_pairs : (Int × Int × (List Int) × Unit)) (v_lots : (List (List Int))) (v_color : Int) : M (List (List Int)) := (Pz.bindM (smallM (pureM ([] : List (List Int)))) fun (r1 : (List (List Int))) => (Pz.bindM (Pz.bindM (pureM v_lots) fun (x40 : (List (List Int))) => forM' (fun (b3 : ((List (List Int)))) (y2 : (List Int)) => (Pz.bindM (Pz.bindM (Pz.bindM (pureM y2) fun (x5 : (List Int)) => (Pz.bindM (smallM (pureM ([] : List Int))) fun (x6 : (List Int)) => pureM (!decide (x5 = x6)))) fun (x17 : Bool) => if x17 then (Pz.bindM (Pz.bindM (pureM y2) fun (x13 : (List Int)) => (Pz.bindM (Pz.bindM (pureM (1 : Int)) fun (x12 : Int) => pureM (-x12)) fun (x14 : Int) => optM (atI x13 x14))) fun (x15 : Int) => (Pz.bindM (pureM (1 : Int)) fun (x16 : Int) => pureM (x15 + x16))) else (pureM (0 : Int))) fun (r4 : Int) => (Pz.bindM (Pz.bindM (Pz.bindM (pureM r4) fun (x19 : Int) => (Pz.bindM (Pz.bindM (pureM v_pairs) fun (x18 : (Int × Int × (List Int) × Unit)) => pureM (x18.1)) fun (x20 : Int) => rangeM x19 x20)) fun (x38 : (List Int)) => forM' (fun (b22 : ((List (List Int)))) (y21 : Int) => (Pz.bindM (Pz.bindM (Pz.bindM (pureM y2) fun (x29 : (List Int)) => compM (fun (y23 : Int) => (pureM true)) (fun (y23 : Int) => (Pz.bindM (Pz.bindM (pureM v_pairs) fun (x24 : (Int × Int × (List Int) × Unit)) => (Pz.bindM (pureM y23) fun (x25 : Int) => (Pz.bindM (pureM y21) fun (x26 : Int) => m_color_of_pair x24 x25 x26))) fun (x27 : Int) => (Pz.bindM (pureM v_color) fun (x28 : Int) => pureM (decide (x27 = x28))))) x29) fun (x30 : (List Bool)) => optM (some (x30.all id))) fun (x31 : Bool) => if x31 then (Pz.bindM (Pz.bindM (smallM (Pz.bindM (pureM y2) fun (x35 : (List Int)) => (Pz.bindM (Pz.bindM (pureM y21) fun (x33 : Int) => (Pz.bindM (pureM ([] : List Int)) fun (x34 : (List Int)) => pureM (x33 :: x34))) fun (x36 : (List Int)) => pureM (x35 ++ x36)))) fun (x37 : (List Int)) => appM b22 x37) fun (r32 : (List (List Int))) => (pureM r32)) else (pureM b22))) x38 b3) fun (r39 : ((List (List Int)))) => (pureM r39)))) x40 r1) fun (r41 : ((List (List Int)))) => (pureM r41)))
theorem ok_longer_one_colored {f : Addr} {fd : FuncData} (F : Fun K "longer_one_colored" "longer_one_colored" s_longer_one_colored f fd) (B : Bl mg)
    {f_color_of_pair : Addr} {d_color_of_pair : FuncData} (C_color_of_pair : Cal K mg "color_of_pair" f_color_of_pair d_color_of_pair ["pairs", "a", "b"]) (F_color_of_pair : FnG P w K mg base 1 f_color_of_pair d_color_of_pair ["pairs", "a", "b"] (SpM (fun p : (Int × Int × (List Int) × Unit) × Int × Int × Unit => [.fz ((eP (eC eInt (eC eInt (eC (eT eInt) eU)))) p.1), .fz (eInt p.2.1), .fz (eInt p.2.2.1)]) eInt (fun p : (Int × Int × (List Int) × Unit) × Int × Int × Unit => m_color_of_pair p.1 p.2.1 p.2.2.1))) :
    FnG P w K mg base 2 f fd ["pairs", "lots", "color"] (SpM (fun p : (Int × Int × (List Int) × Unit) × (List (List Int)) × Int × Unit => [.fz ((eP (eC eInt (eC eInt (eC (eT eInt) eU)))) p.1), .fz ((eL (eT eInt)) p.2.1), .fz (eInt p.2.2.1)]) (eL (eT eInt)) (fun p : (Int × Int × (List Int) × Unit) × (List (List Int)) × Int × Unit => m_longer_one_colored p.1 p.2.1 p.2.2.1)) := by
  refine g_ok F sc_longer_one_colored (fun p : (Int × Int × (List Int) × Unit) × (List (List Int)) × Int × Unit => [.fz ((eP (eC eInt (eC eInt (eC (eT eInt) eU)))) p.1), .fz ((eL (eT eInt)) p.2.1), .fz (eInt p.2.2.1)]) (eL (eT eInt)) (fun p : (Int × Int × (List Int) × Unit) × (List (List Int)) × Int × Unit => m_longer_one_colored p.1 p.2.1 p.2.2.1) (fun p => [.fz ((eP (eC eInt (eC eInt (eC (eT eInt) eU)))) p.1), .fz ((eL (eT eInt)) p.2.1), .fz (eInt p.2.2.1), .un, .un, .un, .un, .un]) (fun _ => rfl) (fun _ => rfl) ?_
  intro cdv A above s H E R p hG hr
  obtain ⟨v_pairs, v_lots, v_color, uu⟩ := p
  have sc := sc_longer_one_colored
  exact (s_step (Γ1 := fun (r1 : (List (List Int))) => [.fz ((eP (eC eInt (eC eInt (eC (eT eInt) eU)))) v_pairs), .fz ((eL (eT eInt)) v_lots), .fz (eInt v_color), .ow ((eL (eT eInt)) r1), .un, .un, .un, .un]) (q_setF 3 (f_list l_nil) sc.nd) (fun (r1 : (List (List Int))) => (s_step (Γ1 := (fun (b : ((List (List Int)))) => [.fz ((eP (eC eInt (eC eInt (eC (eT eInt) eU)))) v_pairs), .fz ((eL (eT eInt)) v_lots), .fz (eInt v_color), .ow ((eL (eT eInt)) b), .un, .un, .un, .un])) (q_for (set := (st1 4 (eT eInt))) (is := [4]) (fun (b : ((List (List Int)))) => [.fz ((eP (eC eInt (eC eInt (eC (eT eInt) eU)))) v_pairs), .fz ((eL (eT eInt)) v_lots), .fz (eInt v_color), .ow ((eL (eT eInt)) b), .un, .un, .un, .un]) r1 (fun (b3 : ((List (List Int)))) (y2 : (List Int)) => (Pz.bindM (Pz.bindM (Pz.bindM (pureM y2) fun (x5 : (List Int)) => (Pz.bindM (smallM (pureM ([] : List Int))) fun (x6 : (List Int)) => pureM (!decide (x5 = x6)))) fun (x17 : Bool) => if x17 then (Pz.bindM (Pz.bindM (pureM y2) fun (x13 : (List Int)) => (Pz.bindM (Pz.bindM (pureM (1 : Int)) fun (x12 : Int) => pureM (-x12)) fun (x14 : Int) => optM (atI x13 x14))) fun (x15 : Int) => (Pz.bindM (pureM (1 : Int)) fun (x16 : Int) => pureM (x15 + x16))) else (pureM (0 : Int))) fun (r4 : Int) => (Pz.bindM (Pz.bindM (Pz.bindM (pureM r4) fun (x19 : Int) => (Pz.bindM (Pz.bindM (pureM v_pairs) fun (x18 : (Int × Int × (List Int) × Unit)) => pureM (x18.1)) fun (x20 : Int) => rangeM x19 x20)) fun (x38 : (List Int)) => forM' (fun (b22 : ((List (List Int)))) (y21 : Int) => (Pz.bindM (Pz.bindM (Pz.bindM (pureM y2) fun (x29 : (List Int)) => compM (fun (y23 : Int) => (pureM true)) (fun (y23 : Int) => (Pz.bindM (Pz.bindM (pureM v_pairs) fun (x24 : (Int × Int × (List Int) × Unit)) => (Pz.bindM (pureM y23) fun (x25 : Int) => (Pz.bindM (pureM y21) fun (x26 : Int) => m_color_of_pair x24 x25 x26))) fun (x27 : Int) => (Pz.bindM (pureM v_color) fun (x28 : Int) => pureM (decide (x27 = x28))))) x29) fun (x30 : (List Bool)) => optM (some (x30.all id))) fun (x31 : Bool) => if x31 then (Pz.bindM (Pz.bindM (smallM (Pz.bindM (pureM y2) fun (x35 : (List Int)) => (Pz.bindM (Pz.bindM (pureM y21) fun (x33 : Int) => (Pz.bindM (pureM ([] : List Int)) fun (x34 : (List Int)) => pureM (x33 :: x34))) fun (x36 : (List Int)) => pureM (x35 ++ x36)))) fun (x37 : (List Int)) => appM b22 x37) fun (r32 : (List (List Int))) => (pureM r32)) else (pureM b22))) x38 b3) fun (r39 : ((List (List Int)))) => (pureM r39)))) PassesOwn.never rfl (i_list (e_var 1 (eL (eT eInt)) v_lots)) (g1 4 (eT eInt) sc.nd) noow1 (.eq (.eq (.eq (.eq (.un (.un (.un (.un .nil)))))))) (fun (b3 : ((List (List Int)))) (y2 : (List Int)) => (s_step (Γ1 := fun (r4 : Int) => [.fz ((eP (eC eInt (eC eInt (eC (eT eInt) eU)))) v_pairs), .fz ((eL (eT eInt)) v_lots), .fz (eInt v_color), .ow ((eL (eT eInt)) b3), .fz ((eT eInt) y2), .fz (eInt r4), .un, .un]) (q_set 5 (e_if (t_neP (n := 1) hr (Dc.tup Dc.int) (e_var 4 (eT eInt) y2) (e_tupl l_nil)) (e_add (e_ixT (e_var 4 (eT eInt) y2) (e_neg e_int)) e_int) e_int) sc.nd) (fun (r4 : Int) => (s_step (Γ1 := (fun (b : ((List (List Int)))) => [.fz ((eP (eC eInt (eC eInt (eC (eT eInt) eU)))) v_pairs), .fz ((eL (eT eInt)) v_lots), .fz (eInt v_color), .ow ((eL (eT eInt)) b), .fz ((eT eInt) y2), .fz (eInt r4), .un, .un])) (q_for (set := (st1 6 eInt)) (is := [6]) (fun (b : ((List (List Int)))) => [.fz ((eP (eC eInt (eC eInt (eC (eT eInt) eU)))) v_pairs), .fz ((eL (eT eInt)) v_lots), .fz (eInt v_color), .ow ((eL (eT eInt)) b), .fz ((eT eInt) y2), .fz (eInt r4), .un, .un]) b3 (fun (b22 : ((List (List Int)))) (y21 : Int) => (Pz.bindM (Pz.bindM (Pz.bindM (pureM y2) fun (x29 : (List Int)) => compM (fun (y23 : Int) => (pureM true)) (fun (y23 : Int) => (Pz.bindM (Pz.bindM (pureM v_pairs) fun (x24 : (Int × Int × (List Int) × Unit)) => (Pz.bindM (pureM y23) fun (x25 : Int) => (Pz.bindM (pureM y21) fun (x26 : Int) => m_color_of_pair x24 x25 x26))) fun (x27 : Int) => (Pz.bindM (pureM v_color) fun (x28 : Int) => pureM (decide (x27 = x28))))) x29) fun (x30 : (List Bool)) => optM (some (x30.all id))) fun (x31 : Bool) => if x31 then (Pz.bindM (Pz.bindM (smallM (Pz.bindM (pureM y2) fun (x35 : (List Int)) => (Pz.bindM (Pz.bindM (pureM y21) fun (x33 : Int) => (Pz.bindM (pureM ([] : List Int)) fun (x34 : (List Int)) => pureM (x33 :: x34))) fun (x36 : (List Int)) => pureM (x35 ++ x36)))) fun (x37 : (List Int)) => appM b22 x37) fun (r32 : (List (List Int))) => (pureM r32)) else (pureM b22))) PassesOwn.never rfl (i_range2 B.b_range (e_var 5 eInt r4) (e_ixP (ec := eInt) (f := (eC eInt (eC eInt (eC (eT eInt) eU)))) (fun p => p.1) 0 (ha := (e_var 0 (eP (eC eInt (eC eInt (eC (eT eInt) eU)))) v_pairs)))) (g1 6 eInt sc.nd) noow1 (.eq (.eq (.eq (.eq (.eq (.eq (.un (.un .nil)))))))) (fun (b22 : ((List (List Int)))) (y21 : Int) => (s_ifend (t_val (e_b1 (ea := (eL eBool)) (ec := eBool) (f := fun x => some (x.all id)) (cr_all rfl) v_all B.b_all bt_all (f_e (f_lc (set := (st1 7 eInt)) (is := [7]) [("a", 7)] (fun (y23 : Int) => (pureM true)) (fun (y23 : Int) => (Pz.bindM (Pz.bindM (pureM v_pairs) fun (x24 : (Int × Int × (List Int) × Unit)) => (Pz.bindM (pureM y23) fun (x25 : Int) => (Pz.bindM (pureM y21) fun (x26 : Int) => m_color_of_pair x24 x25 x26))) fun (x27 : Int) => (Pz.bindM (pureM v_color) fun (x28 : Int) => pureM (decide (x27 = x28))))) rfl sc.nd (i_tup (e_var 4 (eT eInt) y2)) (blkOk_by (N := N_longer_one_colored) (sc := (defScope s_longer_one_colored)) (by decide +kernel)) (fun _ _ _ _ _ => (g1 7 eInt sc.nd)) (fun _ _ _ _ _ (y23 : Int) => c_nil) (fun _ _ _ _ _ (y23 : Int) => (e_eqI (e_c3 (F_color_of_pair.mono (by decide)) hG hr C_color_of_pair.mg C_color_of_pair.kp C_color_of_pair.bd (e_var 0 (eP (eC eInt (eC eInt (eC (eT eInt) eU)))) v_pairs) (e_var 7 eInt y23) (e_var 6 eInt y21)) (e_var 2 eInt v_color))) noow1 sm1 (fun _ h => h) (noOw rfl))))) (s_step (Γ1 := fun (r32 : (List (List Int))) => [.fz ((eP (eC eInt (eC eInt (eC (eT eInt) eU)))) v_pairs), .fz ((eL (eT eInt)) v_lots), .fz (eInt v_color), .ow ((eL (eT eInt)) r32), .fz ((eT eInt) y2), .fz (eInt r4), .fz (eInt y21), .un]) (q_app 3 b22 (e_tupl (l_starT (e_var 4 (eT eInt) y2) (l_cons (e_var 6 eInt y21) l_nil)))) (fun (r32 : (List (List Int))) => (s_nilN (Γb := (fun (b : ((List (List Int)))) => [.fz ((eP (eC eInt (eC eInt (eC (eT eInt) eU)))) v_pairs), .fz ((eL (eT eInt)) v_lots), .fz (eInt v_color), .ow ((eL (eT eInt)) b), .fz ((eT eInt) y2), .fz (eInt r4), .un, .un])) r32 (.eq (.eq (.eq (.eq (.eq (.eq (.un (.un .nil))))))))))) (s_nilN (Γb := (fun (b : ((List (List Int)))) => [.fz ((eP (eC eInt (eC eInt (eC (eT eInt) eU)))) v_pairs), .fz ((eL (eT eInt)) v_lots), .fz (eInt v_color), .ow ((eL (eT eInt)) b), .fz ((eT eInt) y2), .fz (eInt r4), .un, .un])) b22 (.eq (.eq (.eq (.eq (.eq (.eq (.un (.un .nil)))))))))))) (fun (r39 : ((List (List Int)))) => (s_nilN (Γb := (fun (b : ((List (List Int)))) => [.fz ((eP (eC eInt (eC eInt (eC (eT eInt) eU)))) v_pairs), .fz ((eL (eT eInt)) v_lots), .fz (eInt v_color), .ow ((eL (eT eInt)) b), .un, .un, .un, .un])) r39 (.eq (.eq (.eq (.eq (.un (.un (.un (.un .nil))))))))))))))) (fun (r41 : ((List (List Int)))) => (s_low (Γ' := [.fz ((eP (eC eInt (eC eInt (eC (eT eInt) eU)))) v_pairs), .fz ((eL (eT eInt)) v_lots), .fz (eInt v_color), .fz ((eL (eT eInt)) r41), .un, .un, .un, .un]) (.eq (.eq (.eq (.fr (.un (.un (.un (.un .nil)))))))) (s_ret0 (e_var 3 (eL (eT eInt)) r41)))))))

abbrev s_one_colored_lot : Stmt := topS 5
def N_one_colored_lot : List Str := ["pairs", "k", "color", "lots", "lap"]
theorem sc_one_colored_lot : FnScope N_one_colored_lot ["pairs", "k", "color"] (defScope s_one_colored_lot) := ⟨rfl, rfl, rfl, by decide +kernel, rfl, by decide +kernel, by decide +kernel⟩
def m_one_colored_lot (v_pairs : (Int × Int × (List Int) × Unit)) (v_k : Int) (v_color : Int) : M (Option (List Int)) := (Pz.bindM (smallM (Pz.bindM (smallM (pureM ([] : List Int))) fun (x2 : (List Int)) => (Pz.bindM (pureM ([] : List (List Int))) fun (x3 : (List (List Int))) => pureM (x2 :: x3)))) fun (r1 : (List (List Int))) => (Pz.bindM (Pz.bindM (Pz.bindM (pureM v_k) fun (x4 : Int) => rangeM 0 x4) fun (x11 : (List Int)) => forM' (fun (b6 : ((List (List Int)))) (y5 : Int) => (Pz.bindM (Pz.bindM (pureM v_pairs) fun (x8 : (Int × Int × (List Int) × Unit)) => (Pz.bindM (pureM b6) fun (x9 : (List (List Int))) => (Pz.bindM (pureM v_color) fun (x10 : Int) => m_longer_one_colored x8 x9 x10))) fun (r7 : (List (List Int))) => (pureM r7))) x11 r1) fun (r12 : ((List (List Int)))) => (Pz.bindM (Pz.bindM (pureM r12) fun (x13 : (List (List Int))) => (Pz.bindM (smallM (pureM ([] : List (List Int)))) fun (x14 : (List (List Int))) => pureM (!decide (x13 = x14)))) fun (x19 : Bool) => if x19 then (Pz.bindM (Pz.bindM (pureM r12) fun (x15 : (List (List Int))) => (Pz.bindM (pureM (0 : Int)) fun (x16 : Int) => optM (atI x15 x16))) fun (x17 : (List Int)) => pureM (some x17)) else (Pz.bindM (pureM ()) fun (x18 : Unit) => pureM (none : (Option (List Int)))))))
theorem ok_one_colored_lot {f : Addr} {fd : FuncData} (F : Fun K "one_colored_lot" "one_colored_lot" s_one_colored_lot f fd) (B : Bl mg)
    {f_longer_one_colored : Addr} {d_longer_one_colored : FuncData} (C_longer_one_colored : Cal K mg "longer_one_colored" f_longer_one_colored d_longer_one_colored ["pairs", "lots", "color"]) (F_longer_one_colored : FnG P w K mg base 2 f_longer_one_colored d_longer_one_colored ["pairs", "lots", "color"] (SpM (fun p : (Int × Int × (List Int) × Unit) × (List (List Int)) × Int × Unit => [.fz ((eP (eC eInt (eC eInt (eC (eT eInt) eU)))) p.1), .fz ((eL (eT eInt)) p.2.1), .fz (eInt p.2.2.1)]) (eL (eT eInt)) (fun p : (Int × Int × (List Int) × Unit) × (List (List Int)) × Int × Unit => m_longer_one_colored p.1 p.2.1 p.2.2.1))) :
    FnG P w K mg base 3 f fd ["pairs", "k", "color"] (SpM (fun p : (Int × Int × (List Int) × Unit) × Int × Int × Unit => [.fz ((eP (eC eInt (eC eInt (eC (eT eInt) eU)))) p.1), .fz (eInt p.2.1), .fz (eInt p.2.2.1)]) (eO (eT eInt)) (fun p : (Int × Int × (List Int) × Unit) × Int × Int × Unit => m_one_colored_lot p.1 p.2.1 p.2.2.1)) := by
  refine g_ok F sc_one_colored_lot (fun p : (Int × Int × (List Int) × Unit) × Int × Int × Unit => [.fz ((eP (eC eInt (eC eInt (eC (eT eInt) eU)))) p.1), .fz (eInt p.2.1), .fz (eInt p.2.2.1)]) (eO (eT eInt)) (fun p : (Int × Int × (List Int) × Unit) × Int × Int × Unit => m_one_colored_lot p.1 p.2.1 p.2.2.1) (fun p => [.fz ((eP (eC eInt (eC eInt (eC (eT eInt) eU)))) p.1), .fz (eInt p.2.1), .fz (eInt p.2.2.1), .un, .un]) (fun _ => rfl) (fun _ => rfl) ?_
  intro cdv A above s H E R p hG hr
  obtain ⟨v_pairs, v_k, v_color, uu⟩ := p
  have sc := sc_one_colored_lot
  exact (s_step (Γ1 := fun (r1 : (List (List Int))) => [.fz ((eP (eC eInt (eC eInt (eC (eT eInt) eU)))) v_pairs), .fz (eInt v_k), .fz (eInt v_color), .fz ((eL (eT eInt)) r1), .un]) (q_set 3 (f_e (f_list (l_cons (e_tupl l_nil) l_nil))) sc.nd) (fun (r1 : (List (List Int))) => (s_step (Γ1 := (fun (b : ((List (List Int)))) => [.fz ((eP (eC eInt (eC eInt (eC (eT eInt) eU)))) v_pairs), .fz (eInt v_k), .fz (eInt v_color), .fz ((eL (eT eInt)) b), .un])) (q_for (set := (st1 4 eInt)) (is := [4]) (fun (b : ((List (List Int)))) => [.fz ((eP (eC eInt (eC eInt (eC (eT eInt) eU)))) v_pairs), .fz (eInt v_k), .fz (eInt v_color), .fz ((eL (eT eInt)) b), .un]) r1 (fun (b6 : ((List (List Int)))) (y5 : Int) => (Pz.bindM (Pz.bindM (pureM v_pairs) fun (x8 : (Int × Int × (List Int) × Unit)) => (Pz.bindM (pureM b6) fun (x9 : (List (List Int))) => (Pz.bindM (pureM v_color) fun (x10 : Int) => m_longer_one_colored x8 x9 x10))) fun (r7 : (List (List Int))) => (pureM r7))) PassesOwn.never rfl (i_range1 B.b_range (e_var 1 eInt v_k)) (g1 4 eInt sc.nd) noow1 (.eq (.eq (.eq (.eq (.un .nil))))) (fun (b6 : ((List (List Int)))) (y5 : Int) => (s_step (Γ1 := fun (r7 : (List (List Int))) => [.fz ((eP (eC eInt (eC eInt (eC (eT eInt) eU)))) v_pairs), .fz (eInt v_k), .fz (eInt v_color), .fz ((eL (eT eInt)) r7), .fz (eInt y5)]) (q_set 3 (e_c3 (F_longer_one_colored.mono (by decide)) hG hr C_longer_one_colored.mg C_longer_one_colored.kp C_longer_one_colored.bd (e_var 0 (eP (eC eInt (eC eInt (eC (eT eInt) eU)))) v_pairs) (e_var 3 (eL (eT eInt)) b6) (e_var 2 eInt v_color)) sc.nd) (fun (r7 : (List (List Int))) => (s_nilN (Γb := (fun (b : ((List (List Int)))) => [.fz ((eP (eC eInt (eC eInt (eC (eT eInt) eU)))) v_pairs), .fz (eInt v_k), .fz (eInt v_color), .fz ((eL (eT eInt)) b), .un])) r7 (.eq (.eq (.eq (.eq (.un .nil)))))))))) (fun (r12 : ((List (List Int)))) => (s_ret0 (e_if (t_neP (n := 2) hr (Dc.lst (Dc.tup Dc.int)) (e_var 3 (eL (eT eInt)) r12) (f_e (f_list l_nil))) (e_enc (eb := (eO (eT eInt))) some (e_ixL (e_var 3 (eL (eT eInt)) r12) e_int) (fun _ => rfl)) (e_enc (eb := (eO (eT eInt))) (fun _ => (none : (Option (List Int)))) e_non (fun _ => rfl))))))))

abbrev s_color_paper : Stmt := topS 7
def N_color_paper : List Str := ["pairs", "sizes", "i", "k", "lot"]
theorem sc_color_paper : FnScope N_color_paper ["pairs", "sizes"] (defScope s_color_paper) := ⟨rfl, rfl, rfl, by decide +kernel, rfl, by decide +kernel, by decide +kernel⟩
def m_color_paper (v_pairs : (Int × Int × (List Int) × Unit)) (v_sizes : (List Int)) : M PyData := (Pz.bindM (Pz.bindM (Pz.bindM (pureM v_sizes) fun (x1 : (List Int)) => pureM (enumL x1)) fun (x18 : (List (Int × Int × Unit))) => forO (fun (b3 : Unit) (y2 : (Int × Int × Unit)) => (Pz.bindM (Pz.bindM (pureM v_pairs) fun (x5 : (Int × Int × (List Int) × Unit)) => (Pz.bindM (pureM y2.2.1) fun (x6 : Int) => (Pz.bindM (pureM y2.1) fun (x7 : Int) => m_one_colored_lot x5 x6 x7))) fun (r4 : (Option (List Int))) => (Pz.bindM (Pz.bindM (pureM r4) fun (x8 : (Option (List Int))) => pureM x8.isSome) fun (x9 : Bool) => if x9 then Pz.bindM (Pz.bindM (Pz.bindM (pureM ("lot" : Str)) fun (x14 : Str) => (Pz.bindM (Pz.bindM (pureM y2.1) fun (x12 : Int) => (Pz.bindM (Pz.bindM (pureM r4) fun (x10 : (Option (List Int))) => (Pz.bindM (pureM ()) fun (x11 : Unit) => pureM (x10, x11))) fun (x13 : ((Option (List Int)) × Unit)) => pureM (x12, x13))) fun (x15 : (Int × ((Option (List Int)) × Unit))) => pureM (x14, x15))) fun (x16 : (Str × Int × (Option (List Int)) × Unit)) => pureM ((eP (eC eStr (eC eInt (eC (eO (eT eInt)) eU)))) x16)) (fun (x17 : PyData) => pureM (Out.rt x17)) else (pureM (Out.nx ()))))) x18 ()) fun o => caseO o (fun (r19 : Unit) => (Pz.bindM (Pz.bindM (pureM ("none" : Str)) fun (x20 : Str) => (Pz.bindM (pureM ()) fun (x21 : Unit) => pureM (x20, x21))) fun (x22 : (Str × Unit)) => pureM ((eP (eC eStr eU)) x22))) pureM)
theorem ok_color_paper {f : Addr} {fd : FuncData} (F : Fun K "color_paper" "color_paper" s_color_paper f fd) (B : Bl mg)
    {f_one_colored_lot : Addr} {d_one_colored_lot : FuncData} (C_one_colored_lot : Cal K mg "one_colored_lot" f_one_colored_lot d_one_colored_lot ["pairs", "k", "color"]) (F_one_colored_lot : FnG P w K mg base 3 f_one_colored_lot d_one_colored_lot ["pairs", "k", "color"] (SpM (fun p : (Int × Int × (List Int) × Unit) × Int × Int × Unit => [.fz ((eP (eC eInt (eC eInt (eC (eT eInt) eU)))) p.1), .fz (eInt p.2.1), .fz (eInt p.2.2.1)]) (eO (eT eInt)) (fun p : (Int × Int × (List Int) × Unit) × Int × Int × Unit => m_one_colored_lot p.1 p.2.1 p.2.2.1))) :
    FnG P w K mg base 4 f fd ["pairs", "sizes"] (SpM (fun p : (Int × Int × (List Int) × Unit) × (List Int) × Unit => [.fz ((eP (eC eInt (eC eInt (eC (eT eInt) eU)))) p.1), .fz ((eT eInt) p.2.1)]) eD (fun p : (Int × Int × (List Int) × Unit) × (List Int) × Unit => m_color_paper p.1 p.2.1)) := by
  refine g_ok F sc_color_paper (fun p : (Int × Int × (List Int) × Unit) × (List Int) × Unit => [.fz ((eP (eC eInt (eC eInt (eC (eT eInt) eU)))) p.1), .fz ((eT eInt) p.2.1)]) eD (fun p : (Int × Int × (List Int) × Unit) × (List Int) × Unit => m_color_paper p.1 p.2.1) (fun p => [.fz ((eP (eC eInt (eC eInt (eC (eT eInt) eU)))) p.1), .fz ((eT eInt) p.2.1), .un, .un, .un]) (fun _ => rfl) (fun _ => rfl) ?_
  intro cdv A above s H E R p hG hr
  obtain ⟨v_pairs, v_sizes, uu⟩ := p
  have sc := sc_color_paper
  exact (s_step1 (er := eD) (Γ1 := (fun (b : Unit) => [.fz ((eP (eC eInt (eC eInt (eC (eT eInt) eU)))) v_pairs), .fz ((eT eInt) v_sizes), .un, .un, .un])) (q_forO (er := eD) (set := (st2 2 eInt 3 eInt)) (is := [2, 3]) (fun (b : Unit) => [.fz ((eP (eC eInt (eC eInt (eC (eT eInt) eU)))) v_pairs), .fz ((eT eInt) v_sizes), .un, .un, .un]) () (fun (b3 : Unit) (y2 : (Int × Int × Unit)) => (Pz.bindM (Pz.bindM (pureM v_pairs) fun (x5 : (Int × Int × (List Int) × Unit)) => (Pz.bindM (pureM y2.2.1) fun (x6 : Int) => (Pz.bindM (pureM y2.1) fun (x7 : Int) => m_one_colored_lot x5 x6 x7))) fun (r4 : (Option (List Int))) => (Pz.bindM (Pz.bindM (pureM r4) fun (x8 : (Option (List Int))) => pureM x8.isSome) fun (x9 : Bool) => if x9 then Pz.bindM (Pz.bindM (Pz.bindM (pureM ("lot" : Str)) fun (x14 : Str) => (Pz.bindM (Pz.bindM (pureM y2.1) fun (x12 : Int) => (Pz.bindM (Pz.bindM (pureM r4) fun (x10 : (Option (List Int))) => (Pz.bindM (pureM ()) fun (x11 : Unit) => pureM (x10, x11))) fun (x13 : ((Option (List Int)) × Unit)) => pureM (x12, x13))) fun (x15 : (Int × ((Option (List Int)) × Unit))) => pureM (x14, x15))) fun (x16 : (Str × Int × (Option (List Int)) × Unit)) => pureM ((eP (eC eStr (eC eInt (eC (eO (eT eInt)) eU)))) x16)) (fun (x17 : PyData) => pureM (Out.rt x17)) else (pureM (Out.nx ()))))) PassesOwn.never rfl (i_enumT B.b_enumerate (e_var 1 (eT eInt) v_sizes)) (g2 2 3 eInt eInt rfl sc.nd) noow2 (.eq (.eq (.un (.un (.un .nil))))) (fun (b3 : Unit) (y2 : (Int × Int × Unit)) => (s_step (Γ1 := fun (r4 : (Option (List Int))) => [.fz ((eP (eC eInt (eC eInt (eC (eT eInt) eU)))) v_pairs), .fz ((eT eInt) v_sizes), .fz (eInt y2.1), .fz (eInt y2.2.1), .fz ((eO (eT eInt)) r4)]) (q_set 4 (e_c3 (F_one_colored_lot.mono (by decide)) hG hr C_one_colored_lot.mg C_one_colored_lot.kp C_one_colored_lot.bd (e_var 0 (eP (eC eInt (eC eInt (eC (eT eInt) eU)))) v_pairs) (e_var 3 eInt y2.2.1) (e_var 2 eInt y2.1)) sc.nd) (fun (r4 : (Option (List Int))) => (s_ifret2 (Γb := (fun (b : Unit) => [.fz ((eP (eC eInt (eC eInt (eC (eT eInt) eU)))) v_pairs), .fz ((eT eInt) v_sizes), .un, .un, .un])) (t_notN NN.tup (e_var 4 (eO (eT eInt)) r4)) (s_ret0 (e_enc (eb := eD) (fun x => (eP (eC eStr (eC eInt (eC (eO (eT eInt)) eU)))) x) (e_tup (eC eStr (eC eInt (eC (eO (eT eInt)) eU))) (a_cons e_str (a_cons (e_var 2 eInt y2.1) (a_cons (e_var 4 (eO (eT eInt)) r4) a_nil))) (hl := fun _ => (by decide : 3 ≤ sizeLine))) (fun _ => rfl))) (s_nilO (Γb := (fun (b : Unit) => [.fz ((eP (eC eInt (eC eInt (eC (eT eInt) eU)))) v_pairs), .fz ((eT eInt) v_sizes), .un, .un, .un])) () (.eq (.eq (.un (.un (.un .nil))))))))))) (fun (r19 : Unit) => (s_ret0 (e_enc (eb := eD) (fun x => (eP (eC eStr eU)) x) (e_tup (eC eStr eU) (a_cons e_str a_nil) (hl := fun _ => (by decide : 1 ≤ sizeLine))) (fun _ => rfl)))))

abbrev s_is_rising_lot : Stmt := topS 8
def N_is_rising_lot : List Str := ["n", "value", "a", "b"]
theorem sc_is_rising_lot : FnScope N_is_rising_lot ["n", "value"] (defScope s_is_rising_lot) := ⟨rfl, rfl, rfl, by decide +kernel, rfl, by decide +kernel, by decide +kernel⟩
def m_is_rising_lot (v_n : Int) (v_value : PyData) : M Bool := (Pz.bindM (Pz.bindM (Pz.bindM (Pz.bindM (pureM v_value) fun (x1 : PyData) => pureM (isTy "tuple" (eD x1))) fun (x2 : Bool) => pureM (!x2)) fun (x15 : Bool) => if x15 then pureM true else (Pz.bindM (Pz.bindM (Pz.bindM (Pz.bindM (pureM v_value) fun (x3 : PyData) => optM (asTup x3)) fun (x12 : (List PyData)) => compM (fun (y4 : PyData) => (pureM true)) (fun (y4 : PyData) => (Pz.bindM (Pz.bindM (pureM y4) fun (x5 : PyData) => m_is_plain_count x5) fun (x11 : Bool) => if x11 then (Pz.bindM (pureM (0 : Int)) fun (x7 : Int) => (Pz.bindM (Pz.bindM (pureM y4) fun (x6 : PyData) => optM (asInt x6)) fun (x8 : Int) => (Pz.bindM (optM (some (decide (x7 ≤ x8)))) fun (x10 : Bool) => if x10 then (Pz.bindM (pureM v_n) fun (x9 : Int) => optM (some (decide (x8 < x9)))) else pureM false))) else pureM false)) x12) fun (x13 : (List Bool)) => optM (some (x13.all id))) fun (x14 : Bool) => pureM (!x14))) fun (x16 : Bool) => if x16 then (pureM false) else (Pz.bindM (Pz.bindM (Pz.bindM (Pz.bindM (pureM v_value) fun (x17 : PyData) => optM (asTup x17)) fun (x23 : (List PyData)) => (Pz.bindM (Pz.bindM (Pz.bindM (pureM v_value) fun (x18 : PyData) => optM (asTup x18)) fun (x20 : (List PyData)) => (Pz.bindM (Pz.bindM (pureM (1 : Int)) fun (x19 : Int) => pureM (some x19)) fun (x21 : (Option Int)) => (Pz.bindM (pureM (none : Option Int)) fun (x22 : (Option Int)) => pureM (cutL x20 x21 x22)))) fun (x24 : (List PyData)) => pureM (zipL x23 x24))) fun (x30 : (List (PyData × PyData × Unit))) => compM (fun (y25 : (PyData × PyData × Unit)) => (pureM true)) (fun (y25 : (PyData × PyData × Unit)) => (Pz.bindM (Pz.bindM (pureM y25.1) fun (x26 : PyData) => optM (asInt x26)) fun (x28 : Int) => (Pz.bindM (Pz.bindM (pureM y25.2.1) fun (x27 : PyData) => optM (asInt x27)) fun (x29 : Int) => pureM (decide (x28 < x29))))) x30) fun (x31 : (List Bool)) => optM (some (x31.all id))))
theorem ok_is_rising_lot {f : Addr} {fd : FuncData} (F : Fun K "is_rising_lot" "is_rising_lot" s_is_rising_lot f fd) (B : Bl mg)
    {f_is_plain_count : Addr} {d_is_plain_count : FuncData} (C_is_plain_count : Cal K mg "is_plain_count" f_is_plain_count d_is_plain_count ["value"]) (F_is_plain_count : FnG P w K mg base 1 f_is_plain_count d_is_plain_count ["value"] (SpM (fun p : PyData × Unit => [.fz (eD p.1)]) eBool (fun p : PyData × Unit => m_is_plain_count p.1))) :
    FnG P w K mg base 2 f fd ["n", "value"] (SpM (fun p : Int × PyData × Unit => [.fz (eInt p.1), .fz (eD p.2.1)]) eBool (fun p : Int × PyData × Unit => m_is_rising_lot p.1 p.2.1)) := by
  refine g_ok F sc_is_rising_lot (fun p : Int × PyData × Unit => [.fz (eInt p.1), .fz (eD p.2.1)]) eBool (fun p : Int × PyData × Unit => m_is_rising_lot p.1 p.2.1) (fun p => [.fz (eInt p.1), .fz (eD p.2.1), .un, .un]) (fun _ => rfl) (fun _ => rfl) ?_
  intro cdv A above s H E R p hG hr
  obtain ⟨v_n, v_value, uu⟩ := p
  have sc := sc_is_rising_lot
  exact (s_ifret1 (w_t (w_or (t_not (t_val (e_isi (ea := eD) (fun K d => kit_tuple d) B.b_isinstance B.b_tuple bt_tuple (e_var 1 eD v_value)))) (w_or1 (t_not (t_val (e_b1 (ea := (eL eBool)) (ec := eBool) (f := fun x => some (x.all id)) (cr_all rfl) v_all B.b_all bt_all (f_e (f_lc (set := (st1 2 eD)) (is := [2]) [("a", 2)] (fun (y4 : PyData) => (pureM true)) (fun (y4 : PyData) => (Pz.bindM (Pz.bindM (pureM y4) fun (x5 : PyData) => m_is_plain_count x5) fun (x11 : Bool) => if x11 then (Pz.bindM (pureM (0 : Int)) fun (x7 : Int) => (Pz.bindM (Pz.bindM (pureM y4) fun (x6 : PyData) => optM (asInt x6)) fun (x8 : Int) => (Pz.bindM (optM (some (decide (x7 ≤ x8)))) fun (x10 : Bool) => if x10 then (Pz.bindM (pureM v_n) fun (x9 : Int) => optM (some (decide (x8 < x9)))) else pureM false))) else pureM false)) rfl sc.nd (i_tup (e_dTup (e_var 1 eD v_value))) (blkOk_by (N := N_is_rising_lot) (sc := (defScope s_is_rising_lot)) (by decide +kernel)) (fun _ _ _ _ _ => (g1 2 eD sc.nd)) (fun _ _ _ _ _ (y4 : PyData) => c_nil) (fun _ _ _ _ _ (y4 : PyData) => (e_and (e_c1 (F_is_plain_count.mono (by decide)) hG hr C_is_plain_count.mg C_is_plain_count.kp C_is_plain_count.bd (e_var 2 eD y4)) (e_one1 (e_chain (f := (fun x y => some (decide (x ≤ y)))) (g := (fun x y => some (decide (x < y)))) op_le op_lt v_cmp2 v_cmp2 e_int (e_dInt (e_var 2 eD y4)) (e_var 0 eInt v_n))))) noow1 sm1 (fun _ h => h) (noOw rfl))))))))) (s_ret0 e_bool) (s_ret0 (e_b1 (ea := (eL eBool)) (ec := eBool) (f := fun x => some (x.all id)) (cr_all rfl) v_all B.b_all bt_all (f_e (f_lc (set := (st2 2 eD 3 eD)) (is := [2, 3]) [("a", 2), ("b", 3)] (fun (y25 : (PyData × PyData × Unit)) => (pureM true)) (fun (y25 : (PyData × PyData × Unit)) => (Pz.bindM (Pz.bindM (pureM y25.1) fun (x26 : PyData) => optM (asInt x26)) fun (x28 : Int) => (Pz.bindM (Pz.bindM (pureM y25.2.1) fun (x27 : PyData) => optM (asInt x27)) fun (x29 : Int) => pureM (decide (x28 < x29))))) rfl sc.nd (i_zipTT B.b_zip (e_dTup (e_var 1 eD v_value)) (e_slT (e_dTup (e_var 1 eD v_value)) (p_some e_int) p_none)) (blkOk_by (N := N_is_rising_lot) (sc := (defScope s_is_rising_lot)) (by decide +kernel)) (fun _ _ _ _ _ => (g2 2 3 eD eD rfl sc.nd)) (fun _ _ _ _ _ (y25 : (PyData × PyData × Unit)) => c_nil) (fun _ _ _ _ _ (y25 : (PyData × PyData × Unit)) => (e_lt (e_dInt (e_var 2 eD y25.1)) (e_dInt (e_var 3 eD y25.2.1)))) noow2 sm2 (fun _ h => h) (noOw rfl))))))

abbrev s_first_other_pair : Stmt := topS 9
def N_first_other_pair : List Str := ["pairs", "color", "lot", "k", "b", "a"]
theorem sc_first_other_pair : FnScope N_first_other_pair ["pairs", "color", "lot"] (defScope s_first_other_pair) := ⟨rfl, rfl, rfl, by decide +kernel, rfl, by decide +kernel, by decide +kernel⟩
def m_first_other_pair (v_pairs : (Int × Int × (List Int) × Unit)) (v_color : Int) (v_lot : (List Int)) : M (Option (Int × Int × Unit)) := (Pz.bindM (Pz.bindM (Pz.bindM (pureM v_lot) fun (x1 : (List Int)) => pureM (enumL x1)) fun (x24 : (List (Int × Int × Unit))) => forO (fun (b3 : Unit) (y2 : (Int × Int × Unit)) => (Pz.bindM (Pz.bindM (Pz.bindM (pureM v_lot) fun (x5 : (List Int)) => (Pz.bindM (pureM (none : Option Int)) fun (x6 : (Option Int)) => (Pz.bindM (Pz.bindM (pureM y2.1) fun (x4 : Int) => pureM (some x4)) fun (x7 : (Option Int)) => pureM (cutL x5 x6 x7)))) fun (x22 : (List Int)) => forO (fun (b9 : Unit) (y8 : Int) => (Pz.bindM (Pz.bindM (Pz.bindM (pureM v_pairs) fun (x10 : (Int × Int × (List Int) × Unit)) => (Pz.bindM (pureM y8) fun (x11 : Int) => (Pz.bindM (pureM y2.2.1) fun (x12 : Int) => m_color_of_pair x10 x11 x12))) fun (x13 : Int) => (Pz.bindM (pureM v_color) fun (x14 : Int) => pureM (!decide (x13 = x14)))) fun (x15 : Bool) => if x15 then Pz.bindM (Pz.bindM (Pz.bindM (pureM y8) fun (x18 : Int) => (Pz.bindM (Pz.bindM (pureM y2.2.1) fun (x16 : Int) => (Pz.bindM (pureM ()) fun (x17 : Unit) => pureM (x16, x17))) fun (x19 : (Int × Unit)) => pureM (x18, x19))) fun (x20 : (Int × Int × Unit)) => pureM (some x20)) (fun (x21 : (Option (Int × Int × Unit))) => pureM (Out.rt x21)) else (pureM (Out.nx ())))) x22 ()) fun o => caseO o (fun (r23 : Unit) => (pureM (Out.nx ()))) (fun r => pureM (Out.rt r)))) x24 ()) fun o => caseO o (fun (r25 : Unit) => (Pz.bindM (pureM ()) fun (x26 : Unit) => pureM (none : (Option (Int × Int × Unit))))) pureM)
theorem ok_first_other_pair {f : Addr} {fd : FuncData} (F : Fun K "first_other_pair" "first_other_pair" s_first_other_pair f fd) (B : Bl mg)
    {f_color_of_pair : Addr} {d_color_of_pair : FuncData} (C_color_of_pair : Cal K mg "color_of_pair" f_color_of_pair d_color_of_pair ["pairs", "a", "b"]) (F_color_of_pair : FnG P w K mg base 1 f_color_of_pair d_color_of_pair ["pairs", "a", "b"] (SpM (fun p : (Int × Int × (List Int) × Unit) × Int × Int × Unit => [.fz ((eP (eC eInt (eC eInt (eC (eT eInt) eU)))) p.1), .fz (eInt p.2.1), .fz (eInt p.2.2.1)]) eInt (fun p : (Int × Int × (List Int) × Unit) × Int × Int × Unit => m_color_of_pair p.1 p.2.1 p.2.2.1))) :
    FnG P w K mg base 2 f fd ["pairs", "color", "lot"] (SpM (fun p : (Int × Int × (List Int) × Unit) × Int × (List Int) × Unit => [.fz ((eP (eC eInt (eC eInt (eC (eT eInt) eU)))) p.1), .fz (eInt p.2.1), .fz ((eT eInt) p.2.2.1)]) (eO (eP (eC eInt (eC eInt eU)))) (fun p : (Int × Int × (List Int) × Unit) × Int × (List Int) × Unit => m_first_other_pair p.1 p.2.1 p.2.2.1)) := by
  refine g_ok F sc_first_other_pair (fun p : (Int × Int × (List Int) × Unit) × Int × (List Int) × Unit => [.fz ((eP (eC eInt (eC eInt (eC (eT eInt) eU)))) p.1), .fz (eInt p.2.1), .fz ((eT eInt) p.2.2.1)]) (eO (eP (eC eInt (eC eInt eU)))) (fun p : (Int × Int × (List Int) × Unit) × Int × (List Int) × Unit => m_first_other_pair p.1 p.2.1 p.2.2.1) (fun p => [.fz ((eP (eC eInt (eC eInt (eC (eT eInt) eU)))) p.1), .fz (eInt p.2.1), .fz ((eT eInt) p.2.2.1), .un, .un, .un]) (fun _ => rfl) (fun _ => rfl) ?_
  intro cdv A above s H E R p hG hr
  obtain ⟨v_pairs, v_color, v_lot, uu⟩ := p
  have sc := sc_first_other_pair
  exact (s_step1 (er := (eO (eP (eC eInt (eC eInt eU))))) (Γ1 := (fun (b : Unit) => [.fz ((eP (eC eInt (eC eInt (eC (eT eInt) eU)))) v_pairs), .fz (eInt v_color), .fz ((eT eInt) v_lot), .un, .un, .un])) (q_forO (er := (eO (eP (eC eInt (eC eInt eU))))) (set := (st2 3 eInt 4 eInt)) (is := [3, 4]) (fun (b : Unit) => [.fz ((eP (eC eInt (eC eInt (eC (eT eInt) eU)))) v_pairs), .fz (eInt v_color), .fz ((eT eInt) v_lot), .un, .un, .un]) () (fun (b3 : Unit) (y2 : (Int × Int × Unit)) => (Pz.bindM (Pz.bindM (Pz.bindM (pureM v_lot) fun (x5 : (List Int)) => (Pz.bindM (pureM (none : Option Int)) fun (x6 : (Option Int)) => (Pz.bindM (Pz.bindM (pureM y2.1) fun (x4 : Int) => pureM (some x4)) fun (x7 : (Option Int)) => pureM (cutL x5 x6 x7)))) fun (x22 : (List Int)) => forO (fun (b9 : Unit) (y8 : Int) => (Pz.bindM (Pz.bindM (Pz.bindM (pureM v_pairs) fun (x10 : (Int × Int × (List Int) × Unit)) => (Pz.bindM (pureM y8) fun (x11 : Int) => (Pz.bindM (pureM y2.2.1) fun (x12 : Int) => m_color_of_pair x10 x11 x12))) fun (x13 : Int) => (Pz.bindM (pureM v_color) fun (x14 : Int) => pureM (!decide (x13 = x14)))) fun (x15 : Bool) => if x15 then Pz.bindM (Pz.bindM (Pz.bindM (pureM y8) fun (x18 : Int) => (Pz.bindM (Pz.bindM (pureM y2.2.1) fun (x16 : Int) => (Pz.bindM (pureM ()) fun (x17 : Unit) => pureM (x16, x17))) fun (x19 : (Int × Unit)) => pureM (x18, x19))) fun (x20 : (Int × Int × Unit)) => pureM (some x20)) (fun (x21 : (Option (Int × Int × Unit))) => pureM (Out.rt x21)) else (pureM (Out.nx ())))) x22 ()) fun o => caseO o (fun (r23 : Unit) => (pureM (Out.nx ()))) (fun r => pureM (Out.rt r)))) PassesOwn.never rfl (i_enumT B.b_enumerate (e_var 2 (eT eInt) v_lot)) (g2 3 4 eInt eInt rfl sc.nd) noow2 (.eq (.eq (.eq (.un (.un (.un .nil)))))) (fun (b3 : Unit) (y2 : (Int × Int × Unit)) => (s_step2 (er := (eO (eP (eC eInt (eC eInt eU))))) (Γ1 := (fun (b : Unit) => [.fz ((eP (eC eInt (eC eInt (eC (eT eInt) eU)))) v_pairs), .fz (eInt v_color), .fz ((eT eInt) v_lot), .fz (eInt y2.1), .fz (eInt y2.2.1), .un])) (Γb := (fun (b : Unit) => [.fz ((eP (eC eInt (eC eInt (eC (eT eInt) eU)))) v_pairs), .fz (eInt v_color), .fz ((eT eInt) v_lot), .un, .un, .un])) (q_forO (er := (eO (eP (eC eInt (eC eInt eU))))) (set := (st1 5 eInt)) (is := [5]) (fun (b : Unit) => [.fz ((eP (eC eInt (eC eInt (eC (eT eInt) eU)))) v_pairs), .fz (eInt v_color), .fz ((eT eInt) v_lot), .fz (eInt y2.1), .fz (eInt y2.2.1), .un]) () (fun (b9 : Unit) (y8 : Int) => (Pz.bindM (Pz.bindM (Pz.bindM (pureM v_pairs) fun (x10 : (Int × Int × (List Int) × Unit)) => (Pz.bindM (pureM y8) fun (x11 : Int) => (Pz.bindM (pureM y2.2.1) fun (x12 : Int) => m_color_of_pair x10 x11 x12))) fun (x13 : Int) => (Pz.bindM (pureM v_color) fun (x14 : Int) => pureM (!decide (x13 = x14)))) fun (x15 : Bool) => if x15 then Pz.bindM (Pz.bindM (Pz.bindM (pureM y8) fun (x18 : Int) => (Pz.bindM (Pz.bindM (pureM y2.2.1) fun (x16 : Int) => (Pz.bindM (pureM ()) fun (x17 : Unit) => pureM (x16, x17))) fun (x19 : (Int × Unit)) => pureM (x18, x19))) fun (x20 : (Int × Int × Unit)) => pureM (some x20)) (fun (x21 : (Option (Int × Int × Unit))) => pureM (Out.rt x21)) else (pureM (Out.nx ())))) PassesOwn.never rfl (i_tup (e_slT (e_var 2 (eT eInt) v_lot) p_none (p_some (e_var 3 eInt y2.1)))) (g1 5 eInt sc.nd) noow1 (.eq (.eq (.eq (.eq (.eq (.un .nil)))))) (fun (b9 : Unit) (y8 : Int) => (s_ifret2 (Γb := (fun (b : Unit) => [.fz ((eP (eC eInt (eC eInt (eC (eT eInt) eU)))) v_pairs), .fz (eInt v_color), .fz ((eT eInt) v_lot), .fz (eInt y2.1), .fz (eInt y2.2.1), .un])) (t_neI (e_c3 (F_color_of_pair.mono (by decide)) hG hr C_color_of_pair.mg C_color_of_pair.kp C_color_of_pair.bd (e_var 0 (eP (eC eInt (eC eInt (eC (eT eInt) eU)))) v_pairs) (e_var 5 eInt y8) (e_var 4 eInt y2.2.1)) (e_var 1 eInt v_color)) (s_ret0 (e_enc (eb := (eO (eP (eC eInt (eC eInt eU))))) some (e_tup (eC eInt (eC eInt eU)) (a_cons (e_var 5 eInt y8) (a_cons (e_var 4 eInt y2.2.1) a_nil)) (hl := fun _ => (by decide : 2 ≤ sizeLine))) (fun _ => rfl))) (s_nilO (Γb := (fun (b : Unit) => [.fz ((eP (eC eInt (eC eInt (eC (eT eInt) eU)))) v_pairs), .fz (eInt v_color), .fz ((eT eInt) v_lot), .fz (eInt y2.1), .fz (eInt y2.2.1), .un])) () (.eq (.eq (.eq (.eq (.eq (.un .nil)))))))))) (fun (r23 : Unit) => (s_nilO (Γb := (fun (b : Unit) => [.fz ((eP (eC eInt (eC eInt (eC (eT eInt) eU)))) v_pairs), .fz (eInt v_color), .fz ((eT eInt) v_lot), .un, .un, .un])) () (.eq (.eq (.eq (.un (.un (.un .nil))))))))))) (fun (r25 : Unit) => (s_ret0 (e_enc (eb := (eO (eP (eC eInt (eC eInt eU))))) (fun _ => (none : (Option (Int × Int × Unit)))) e_non (fun _ => rfl)))))

abbrev s_color_lot_fault : Stmt := topS 10
def N_color_lot_fault : List Str := ["pairs", "sizes", "i", "lot", "pair"]
theorem sc_color_lot_fault : FnScope N_color_lot_fault ["pairs", "sizes", "i", "lot"] (defScope s_color_lot_fault) := ⟨rfl, rfl, rfl, by decide +kernel, rfl, by decide +kernel, by decide +kernel⟩
def m_color_lot_fault (v_pairs : (Int × Int × (List Int) × Unit)) (v_sizes : (List Int)) (v_i : Int) (v_lot : (List Int)) : M PyData := (Pz.bindM (Pz.bindM (Pz.bindM (pureM v_lot) fun (x1 : (List Int)) => pureM (x1.length : Int)) fun (x4 : Int) => (Pz.bindM (Pz.bindM (pureM v_sizes) fun (x2 : (List Int)) => (Pz.bindM (pureM v_i) fun (x3 : Int) => optM (atI x2 x3))) fun (x5 : Int) => pureM (!decide (x4 = x5)))) fun (x6 : Bool) => if x6 then (Pz.bindM (Pz.bindM (pureM ("size" : Str)) fun (x10 : Str) => (Pz.bindM (Pz.bindM (Pz.bindM (pureM v_lot) fun (x7 : (List Int)) => pureM (x7.length : Int)) fun (x8 : Int) => (Pz.bindM (pureM ()) fun (x9 : Unit) => pureM (x8, x9))) fun (x11 : (Int × Unit)) => pureM (x10, x11))) fun (x12 : (Str × Int × Unit)) => pureM ((eP (eC eStr (eC eInt eU))) x12)) else (Pz.bindM (Pz.bindM (pureM v_pairs) fun (x14 : (Int × Int × (List Int) × Unit)) => (Pz.bindM (pureM v_i) fun (x15 : Int) => (Pz.bindM (pureM v_lot) fun (x16 : (List Int)) => m_first_other_pair x14 x15 x16))) fun (r13 : (Option (Int × Int × Unit))) => (Pz.bindM (Pz.bindM (pureM r13) fun (x17 : (Option (Int × Int × Unit))) => pureM x17.isSome) fun (x30 : Bool) => if x30 then (Pz.bindM (smallM (Pz.bindM (Pz.bindM (pureM ("pair" : Str)) fun (x25 : Str) => pureM (eStr x25)) fun (x26 : PyData) => (Pz.bindM (Pz.bindM (Pz.bindM (Pz.bindM (Pz.bindM (pureM r13) fun (x20 : (Option (Int × Int × Unit))) => optM x20) fun (x21 : (Int × Int × Unit)) => pureM ((fun p : (Int × Int × Unit) => [p.1, p.2.1]) x21)) fun (x22 : (List Int)) => pureM ((List.map eInt) x22)) fun (x23 : (List PyData)) => (Pz.bindM (pureM ([] : List PyData)) fun (x24 : (List PyData)) => pureM (x23 ++ x24))) fun (x27 : (List PyData)) => pureM (x26 :: x27)))) fun (x28 : (List PyData)) => pureM ((eT eD) x28)) else (Pz.bindM (pureM ()) fun (x29 : Unit) => pureM (eNon x29)))))
theorem ok_color_lot_fault {f : Addr} {fd : FuncData} (F : Fun K "color_lot_fault" "color_lot_fault" s_color_lot_fault f fd) (B : Bl mg)
    {f_first_other_pair : Addr} {d_first_other_pair : FuncData} (C_first_other_pair : Cal K mg "first_other_pair" f_first_other_pair d_first_other_pair ["pairs", "color", "lot"]) (F_first_other_pair : FnG P w K mg base 2 f_first_other_pair d_first_other_pair ["pairs", "color", "lot"] (SpM (fun p : (Int × Int × (List Int) × Unit) × Int × (List Int) × Unit => [.fz ((eP (eC eInt (eC eInt (eC (eT eInt) eU)))) p.1), .fz (eInt p.2.1), .fz ((eT eInt) p.2.2.1)]) (eO (eP (eC eInt (eC eInt eU)))) (fun p : (Int × Int × (List Int) × Unit) × Int × (List Int) × Unit => m_first_other_pair p.1 p.2.1 p.2.2.1))) :
    FnG P w K mg base 3 f fd ["pairs", "sizes", "i", "lot"] (SpM (fun p : (Int × Int × (List Int) × Unit) × (List Int) × Int × (List Int) × Unit => [.fz ((eP (eC eInt (eC eInt (eC (eT eInt) eU)))) p.1), .fz ((eT eInt) p.2.1), .fz (eInt p.2.2.1), .fz ((eT eInt) p.2.2.2.1)]) eD (fun p : (Int × Int × (List Int) × Unit) × (List Int) × Int × (List Int) × Unit => m_color_lot_fault p.1 p.2.1 p.2.2.1 p.2.2.2.1)) := by
  refine g_ok F sc_color_lot_fault (fun p : (Int × Int × (List Int) × Unit) × (List Int) × Int × (List Int) × Unit => [.fz ((eP (eC eInt (eC eInt (eC (eT eInt) eU)))) p.1), .fz ((eT eInt) p.2.1), .fz (eInt p.2.2.1), .fz ((eT eInt) p.2.2.2.1)]) eD (fun p : (Int × Int × (List Int) × Unit) × (List Int) × Int × (List Int) × Unit => m_color_lot_fault p.1 p.2.1 p.2.2.1 p.2.2.2.1) (fun p => [.fz ((eP (eC eInt (eC eInt (eC (eT eInt) eU)))) p.1), .fz ((eT eInt) p.2.1), .fz (eInt p.2.2.1), .fz ((eT eInt) p.2.2.2.1), .un]) (fun _ => rfl) (fun _ => rfl) ?_
  intro cdv A above s H E R p hG hr
  obtain ⟨v_pairs, v_sizes, v_i, v_lot, uu⟩ := p
  have sc := sc_color_lot_fault
  exact (s_ifret1 (t_neI (e_lenT B.b_len bt_len (e_var 3 (eT eInt) v_lot)) (e_ixT (e_var 1 (eT eInt) v_sizes) (e_var 2 eInt v_i))) (s_ret0 (e_enc (eb := eD) (fun x => (eP (eC eStr (eC eInt eU))) x) (e_tup (eC eStr (eC eInt eU)) (a_cons e_str (a_cons (e_lenT B.b_len bt_len (e_var 3 (eT eInt) v_lot)) a_nil)) (hl := fun _ => (by decide : 2 ≤ sizeLine))) (fun _ => rfl))) (s_step (Γ1 := fun (r13 : (Option (Int × Int × Unit))) => [.fz ((eP (eC eInt (eC eInt (eC (eT eInt) eU)))) v_pairs), .fz ((eT eInt) v_sizes), .fz (eInt v_i), .fz ((eT eInt) v_lot), .fz ((eO (eP (eC eInt (eC eInt eU)))) r13)]) (q_set 4 (e_c3 (F_first_other_pair.mono (by decide)) hG hr C_first_other_pair.mg C_first_other_pair.kp C_first_other_pair.bd (e_var 0 (eP (eC eInt (eC eInt (eC (eT eInt) eU)))) v_pairs) (e_var 2 eInt v_i) (e_var 3 (eT eInt) v_lot)) sc.nd) (fun (r13 : (Option (Int × Int × Unit))) => (s_ret0 (e_if (t_notN NN.pr (e_var 4 (eO (eP (eC eInt (eC eInt eU)))) r13)) (e_enc (eb := eD) (fun x => (eT eD) x) (e_tupl (l_cons (e_enc (eb := eD) (fun x => eStr x) e_str (fun _ => rfl)) (l_starT (e_enc (eb := (eT eD)) (List.map eInt) (e_enc (eb := (eT eInt)) (fun p : (Int × Int × Unit) => [p.1, p.2.1]) (e_some (e_var 4 (eO (eP (eC eInt (eC eInt eU)))) r13)) (fun _ => rfl)) (fun x => by simp [eT, eD])) l_nil))) (fun _ => rfl)) (e_enc (eb := eD) (fun x => eNon x) e_non (fun _ => rfl)))))))

abbrev s_judge_color : Stmt := topS 11
def N_judge_color : List Str := ["pairs", "sizes", "value", "told"]
theorem sc_judge_color : FnScope N_judge_color ["pairs", "sizes", "value"] (defScope s_judge_color) := ⟨rfl, rfl, rfl, by decide +kernel, rfl, by decide +kernel, by decide +kernel⟩
def m_judge_color (v_pairs : (Int × Int × (List Int) × Unit)) (v_sizes : (List Int)) (v_value : PyData) : M PyData := (Pz.bindM (Pz.bindM (Pz.bindM (Pz.bindM (pureM v_value) fun (x1 : PyData) => pureM (isTy "tuple" (eD x1))) fun (x2 : Bool) => pureM (!x2)) fun (x18 : Bool) => if x18 then pureM true else (Pz.bindM (Pz.bindM (Pz.bindM (Pz.bindM (pureM v_value) fun (x8 : PyData) => optM (asTup x8)) fun (x9 : (List PyData)) => pureM (x9.length : Int)) fun (x10 : Int) => (Pz.bindM (Pz.bindM (Pz.bindM (pureM (1 : Int)) fun (x5 : Int) => (Pz.bindM (Pz.bindM (pureM (3 : Int)) fun (x3 : Int) => (Pz.bindM (pureM ()) fun (x4 : Unit) => pureM (x3, x4))) fun (x6 : (Int × Unit)) => pureM (x5, x6))) fun (x7 : (Int × Int × Unit)) => pureM ((fun p : (Int × Int × Unit) => [p.1, p.2.1]) x7)) fun (x11 : (List Int)) => pureM (!decide (x10 ∈ x11)))) fun (x17 : Bool) => if x17 then pureM true else (Pz.bindM (Pz.bindM (Pz.bindM (Pz.bindM (pureM v_value) fun (x12 : PyData) => optM (asTup x12)) fun (x13 : (List PyData)) => (Pz.bindM (pureM (0 : Int)) fun (x14 : Int) => optM (atI x13 x14))) fun (x15 : PyData) => pureM (isTy "str" (eD x15))) fun (x16 : Bool) => pureM (!x16)))) fun (x19 : Bool) => if x19 then (Pz.bindM (Pz.bindM (pureM ("form" : Str)) fun (x20 : Str) => (Pz.bindM (pureM ()) fun (x21 : Unit) => pureM (x20, x21))) fun (x22 : (Str × Unit)) => pureM ((eP (eC eStr eU)) x22)) else (Pz.bindM (Pz.bindM (pureM v_value) fun (x25 : PyData) => (Pz.bindM (Pz.bindM (pureM ("none" : Str)) fun (x23 : Str) => (Pz.bindM (pureM ()) fun (x24 : Unit) => pureM (x23, x24))) fun (x26 : (Str × Unit)) => optM (eqZ (eD x25) ((eP (eC eStr eU)) x26)))) fun (x27 : Bool) => if x27 then (Pz.bindM (Pz.bindM (pureM v_pairs) fun (x29 : (Int × Int × (List Int) × Unit)) => (Pz.bindM (pureM v_sizes) fun (x30 : (List Int)) => m_color_paper x29 x30)) fun (r28 : PyData) => (Pz.bindM (Pz.bindM (pureM r28) fun (x33 : PyData) => (Pz.bindM (Pz.bindM (pureM ("none" : Str)) fun (x31 : Str) => (Pz.bindM (pureM ()) fun (x32 : Unit) => pureM (x31, x32))) fun (x34 : (Str × Unit)) => optM ((eqZ (eD x33) ((eP (eC eStr eU)) x34)).map (!·)))) fun (x52 : Bool) => if x52 then (Pz.bindM (smallM (Pz.bindM (Pz.bindM (pureM ("there" : Str)) fun (x47 : Str) => pureM (eStr x47)) fun (x48 : PyData) => (Pz.bindM (Pz.bindM (Pz.bindM (Pz.bindM (pureM r28) fun (x40 : PyData) => optM (asTup x40)) fun (x42 : (List PyData)) => (Pz.bindM (Pz.bindM (pureM (1 : Int)) fun (x41 : Int) => pureM (some x41)) fun (x43 : (Option Int)) => (Pz.bindM (pureM (none : Option Int)) fun (x44 : (Option Int)) => pureM (cutL x42 x43 x44)))) fun (x45 : (List PyData)) => (Pz.bindM (pureM ([] : List PyData)) fun (x46 : (List PyData)) => pureM (x45 ++ x46))) fun (x49 : (List PyData)) => pureM (x48 :: x49)))) fun (x50 : (List PyData)) => pureM ((eT eD) x50)) else (Pz.bindM (pureM ()) fun (x51 : Unit) => pureM (eNon x51)))) else (Pz.bindM (Pz.bindM (Pz.bindM (Pz.bindM (Pz.bindM (pureM v_value) fun (x53 : PyData) => optM (asTup x53)) fun (x54 : (List PyData)) => (Pz.bindM (pureM (0 : Int)) fun (x55 : Int) => optM (atI x54 x55))) fun (x56 : PyData) => (Pz.bindM (pureM ("lot" : Str)) fun (x57 : Str) => optM ((eqZ (eD x56) (eStr x57)).map (!·)))) fun (x79 : Bool) => if x79 then pureM true else (Pz.bindM (Pz.bindM (Pz.bindM (Pz.bindM (pureM v_value) fun (x58 : PyData) => optM (asTup x58)) fun (x59 : (List PyData)) => pureM (x59.length : Int)) fun (x60 : Int) => (Pz.bindM (pureM (3 : Int)) fun (x61 : Int) => pureM (!decide (x60 = x61)))) fun (x78 : Bool) => if x78 then pureM true else (Pz.bindM (Pz.bindM (Pz.bindM (Pz.bindM (Pz.bindM (pureM v_value) fun (x62 : PyData) => optM (asTup x62)) fun (x63 : (List PyData)) => (Pz.bindM (pureM (1 : Int)) fun (x64 : Int) => optM (atI x63 x64))) fun (x65 : PyData) => m_is_plain_count x65) fun (x66 : Bool) => pureM (!x66)) fun (x77 : Bool) => if x77 then pureM true else (Pz.bindM (Pz.bindM (pureM (0 : Int)) fun (x72 : Int) => (Pz.bindM (Pz.bindM (Pz.bindM (Pz.bindM (pureM v_value) fun (x67 : PyData) => optM (asTup x67)) fun (x68 : (List PyData)) => (Pz.bindM (pureM (1 : Int)) fun (x69 : Int) => optM (atI x68 x69))) fun (x70 : PyData) => optM (asInt x70)) fun (x73 : Int) => (Pz.bindM (optM (some (decide (x72 ≤ x73)))) fun (x75 : Bool) => if x75 then (Pz.bindM (Pz.bindM (pureM v_pairs) fun (x71 : (Int × Int × (List Int) × Unit)) => pureM (x71.2.1)) fun (x74 : Int) => optM (some (decide (x73 < x74)))) else pureM false))) fun (x76 : Bool) => pureM (!x76))))) fun (x80 : Bool) => if x80 then (Pz.bindM (Pz.bindM (pureM ("form" : Str)) fun (x81 : Str) => (Pz.bindM (pureM ()) fun (x82 : Unit) => pureM (x81, x82))) fun (x83 : (Str × Unit)) => pureM ((eP (eC eStr eU)) x83)) else (Pz.bindM (Pz.bindM (Pz.bindM (pureM v_pairs) fun (x84 : (Int × Int × (List Int) × Unit)) => pureM (x84.1)) fun (x88 : Int) => (Pz.bindM (Pz.bindM (Pz.bindM (pureM v_value) fun (x85 : PyData) => optM (asTup x85)) fun (x86 : (List PyData)) => (Pz.bindM (pureM (2 : Int)) fun (x87 : Int) => optM (atI x86 x87))) fun (x89 : PyData) => m_is_rising_lot x88 x89)) fun (x106 : Bool) => if x106 then (Pz.bindM (pureM v_pairs) fun (x99 : (Int × Int × (List Int) × Unit)) => (Pz.bindM (pureM v_sizes) fun (x100 : (List Int)) => (Pz.bindM (Pz.bindM (Pz.bindM (Pz.bindM (pureM v_value) fun (x90 : PyData) => optM (asTup x90)) fun (x91 : (List PyData)) => (Pz.bindM (pureM (1 : Int)) fun (x92 : Int) => optM (atI x91 x92))) fun (x93 : PyData) => optM (asInt x93)) fun (x101 : Int) => (Pz.bindM (Pz.bindM (Pz.bindM (Pz.bindM (Pz.bindM (pureM v_value) fun (x94 : PyData) => optM (asTup x94)) fun (x95 : (List PyData)) => (Pz.bindM (pureM (2 : Int)) fun (x96 : Int) => optM (atI x95 x96))) fun (x97 : PyData) => optM (asTup x97)) fun (x98 : (List PyData)) => optM (x98.mapM asInt)) fun (x102 : (List Int)) => m_color_lot_fault x99 x100 x101 x102)))) else (Pz.bindM (Pz.bindM (pureM ("form" : Str)) fun (x103 : Str) => (Pz.bindM (pureM ()) fun (x104 : Unit) => pureM (x103, x104))) fun (x105 : (Str × Unit)) => pureM ((eP (eC eStr eU)) x105))))))
theorem ok_judge_color {f : Addr} {fd : FuncData} (F : Fun K "judge_color" "judge_color" s_judge_color f fd) (B : Bl mg)
    {f_color_paper : Addr} {d_color_paper : FuncData} (C_color_paper : Cal K mg "color_paper" f_color_paper d_color_paper ["pairs", "sizes"]) (F_color_paper : FnG P w K mg base 4 f_color_paper d_color_paper ["pairs", "sizes"] (SpM (fun p : (Int × Int × (List Int) × Unit) × (List Int) × Unit => [.fz ((eP (eC eInt (eC eInt (eC (eT eInt) eU)))) p.1), .fz ((eT eInt) p.2.1)]) eD (fun p : (Int × Int × (List Int) × Unit) × (List Int) × Unit => m_color_paper p.1 p.2.1)))
    {f_is_plain_count : Addr} {d_is_plain_count : FuncData} (C_is_plain_count : Cal K mg "is_plain_count" f_is_plain_count d_is_plain_count ["value"]) (F_is_plain_count : FnG P w K mg base 1 f_is_plain_count d_is_plain_count ["value"] (SpM (fun p : PyData × Unit => [.fz (eD p.1)]) eBool (fun p : PyData × Unit => m_is_plain_count p.1)))
    {f_is_rising_lot : Addr} {d_is_rising_lot : FuncData} (C_is_rising_lot : Cal K mg "is_rising_lot" f_is_rising_lot d_is_rising_lot ["n", "value"]) (F_is_rising_lot : FnG P w K mg base 2 f_is_rising_lot d_is_rising_lot ["n", "value"] (SpM (fun p : Int × PyData × Unit => [.fz (eInt p.1), .fz (eD p.2.1)]) eBool (fun p : Int × PyData × Unit => m_is_rising_lot p.1 p.2.1)))
    {f_color_lot_fault : Addr} {d_color_lot_fault : FuncData} (C_color_lot_fault : Cal K mg "color_lot_fault" f_color_lot_fault d_color_lot_fault ["pairs", "sizes", "i", "lot"]) (F_color_lot_fault : FnG P w K mg base 3 f_color_lot_fault d_color_lot_fault ["pairs", "sizes", "i", "lot"] (SpM (fun p : (Int × Int × (List Int) × Unit) × (List Int) × Int × (List Int) × Unit => [.fz ((eP (eC eInt (eC eInt (eC (eT eInt) eU)))) p.1), .fz ((eT eInt) p.2.1), .fz (eInt p.2.2.1), .fz ((eT eInt) p.2.2.2.1)]) eD (fun p : (Int × Int × (List Int) × Unit) × (List Int) × Int × (List Int) × Unit => m_color_lot_fault p.1 p.2.1 p.2.2.1 p.2.2.2.1))) :
    FnG P w K mg base 5 f fd ["pairs", "sizes", "value"] (SpM (fun p : (Int × Int × (List Int) × Unit) × (List Int) × PyData × Unit => [.fz ((eP (eC eInt (eC eInt (eC (eT eInt) eU)))) p.1), .fz ((eT eInt) p.2.1), .fz (eD p.2.2.1)]) eD (fun p : (Int × Int × (List Int) × Unit) × (List Int) × PyData × Unit => m_judge_color p.1 p.2.1 p.2.2.1)) := by
  refine g_ok F sc_judge_color (fun p : (Int × Int × (List Int) × Unit) × (List Int) × PyData × Unit => [.fz ((eP (eC eInt (eC eInt (eC (eT eInt) eU)))) p.1), .fz ((eT eInt) p.2.1), .fz (eD p.2.2.1)]) eD (fun p : (Int × Int × (List Int) × Unit) × (List Int) × PyData × Unit => m_judge_color p.1 p.2.1 p.2.2.1) (fun p => [.fz ((eP (eC eInt (eC eInt (eC (eT eInt) eU)))) p.1), .fz ((eT eInt) p.2.1), .fz (eD p.2.2.1), .un]) (fun _ => rfl) (fun _ => rfl) ?_
  intro cdv A above s H E R p hG hr
  obtain ⟨v_pairs, v_sizes, v_value, uu⟩ := p
  have sc := sc_judge_color
  exact (s_ifret1 (w_t (w_or (t_not (t_val (e_isi (ea := eD) (fun K d => kit_tuple d) B.b_isinstance B.b_tuple bt_tuple (e_var 2 eD v_value)))) (w_or (t_ninT (n := 0) hr Dc.int (e_lenT B.b_len bt_len (e_dTup (e_var 2 eD v_value))) (e_enc (eb := (eT eInt)) (fun p : (Int × Int × Unit) => [p.1, p.2.1]) (e_tup (eC eInt (eC eInt eU)) (a_cons e_int (a_cons e_int a_nil)) (hl := fun _ => (by decide : 2 ≤ sizeLine))) (fun _ => rfl))) (w_or1 (t_not (t_val (e_isi (ea := eD) (fun K d => kit_str d) B.b_isinstance B.b_str bt_str (e_ixT (e_dTup (e_var 2 eD v_value)) e_int)))))))) (s_ret0 (e_enc (eb := eD) (fun x => (eP (eC eStr eU)) x) (e_tup (eC eStr eU) (a_cons e_str a_nil) (hl := fun _ => (by decide : 1 ≤ sizeLine))) (fun _ => rfl))) (s_ifret1 (t_eqZ hr (e_var 2 eD v_value) (e_tup (eC eStr eU) (a_cons e_str a_nil) (hl := fun _ => (by decide : 1 ≤ sizeLine)))) (s_step (Γ1 := fun (r28 : PyData) => [.fz ((eP (eC eInt (eC eInt (eC (eT eInt) eU)))) v_pairs), .fz ((eT eInt) v_sizes), .fz (eD v_value), .fz (eD r28)]) (q_set 3 (e_c2 (F_color_paper.mono (by decide)) hG hr C_color_paper.mg C_color_paper.kp C_color_paper.bd (e_var 0 (eP (eC eInt (eC eInt (eC (eT eInt) eU)))) v_pairs) (e_var 1 (eT eInt) v_sizes)) sc.nd) (fun (r28 : PyData) => (s_ret0 (e_if (t_neZ hr (e_var 3 eD r28) (e_tup (eC eStr eU) (a_cons e_str a_nil) (hl := fun _ => (by decide : 1 ≤ sizeLine)))) (e_enc (eb := eD) (fun x => (eT eD) x) (e_tupl (l_cons (e_enc (eb := eD) (fun x => eStr x) e_str (fun _ => rfl)) (l_starT (e_slT (e_dTup (e_var 3 eD r28)) (p_some e_int) p_none) l_nil))) (fun _ => rfl)) (e_enc (eb := eD) (fun x => eNon x) e_non (fun _ => rfl)))))) (s_ifret1 (w_t (w_or (t_neZ hr (e_ixT (e_dTup (e_var 2 eD v_value)) e_int) e_str) (w_or (t_neI (e_lenT B.b_len bt_len (e_dTup (e_var 2 eD v_value))) e_int) (w_or (t_not (t_val (e_c1 (F_is_plain_count.mono (by decide)) hG hr C_is_plain_count.mg C_is_plain_count.kp C_is_plain_count.bd (e_ixT (e_dTup (e_var 2 eD v_value)) e_int)))) (w_or1 (t_not (t_chain (f := (fun x y => some (decide (x ≤ y)))) (g := (fun x y => some (decide (x < y)))) op_le op_lt v_cmp2 v_cmp2 e_int (e_dInt (e_ixT (e_dTup (e_var 2 eD v_value)) e_int)) (e_ixP (ec := eInt) (f := (eC eInt (eC eInt (eC (eT eInt) eU)))) (fun p => p.2.1) 1 (ha := (e_var 0 (eP (eC eInt (eC eInt (eC (eT eInt) eU)))) v_pairs)))))))))) (s_ret0 (e_enc (eb := eD) (fun x => (eP (eC eStr eU)) x) (e_tup (eC eStr eU) (a_cons e_str a_nil) (hl := fun _ => (by decide : 1 ≤ sizeLine))) (fun _ => rfl))) (s_ret0 (e_if (t_val (e_c2 (F_is_rising_lot.mono (by decide)) hG hr C_is_rising_lot.mg C_is_rising_lot.kp C_is_rising_lot.bd (e_ixP (ec := eInt) (f := (eC eInt (eC eInt (eC (eT eInt) eU)))) (fun p => p.1) 0 (ha := (e_var 0 (eP (eC eInt (eC eInt (eC (eT eInt) eU)))) v_pairs))) (e_ixT (e_dTup (e_var 2 eD v_value)) e_int))) (e_c4 (F_color_lot_fault.mono (by decide)) hG hr C_color_lot_fault.mg C_color_lot_fault.kp C_color_lot_fault.bd (e_var 0 (eP (eC eInt (eC eInt (eC (eT eInt) eU)))) v_pairs) (e_var 1 (eT eInt) v_sizes) (e_dInt (e_ixT (e_dTup (e_var 2 eD v_value)) e_int)) (e_dTupAs asInt (fun x y q => by cases x <;> cases q <;> rfl) (e_dTup (e_ixT (e_dTup (e_var 2 eD v_value)) e_int)))) (e_enc (eb := eD) (fun x => (eP (eC eStr eU)) x) (e_tup (eC eStr eU) (a_cons e_str a_nil) (hl := fun _ => (by decide : 1 ≤ sizeLine))) (fun _ => rfl)))))))

abbrev s__law_lots : Stmt := topS 16
def N__law_lots : List Str := ["n", "k", "found", "a", "lot"]
theorem sc__law_lots : FnScope N__law_lots ["n", "k"] (defScope s__law_lots) := ⟨rfl, rfl, rfl, by decide +kernel, rfl, by decide +kernel, by decide +kernel⟩
def m__law_lots (v_n : Int) (v_k : Int) : M (List (List Int)) := (Pz.bindM (smallM (Pz.bindM (smallM (pureM ([] : List Int))) fun (x2 : (List Int)) => (Pz.bindM (pureM ([] : List (List Int))) fun (x3 : (List (List Int))) => pureM (x2 :: x3)))) fun (r1 : (List (List Int))) => (Pz.bindM (Pz.bindM (Pz.bindM (pureM v_n) fun (x4 : Int) => rangeM 0 x4) fun (x20 : (List Int)) => forM' (fun (b6 : ((List (List Int)))) (y5 : Int) => (Pz.bindM (Pz.bindM (pureM b6) fun (x18 : (List (List Int))) => (Pz.bindM (Pz.bindM (pureM b6) fun (x17 : (List (List Int))) => compM (fun (y8 : (List Int)) => (Pz.bindM (Pz.bindM (pureM y8) fun (x9 : (List Int)) => pureM (x9.length : Int)) fun (x10 : Int) => (Pz.bindM (pureM v_k) fun (x11 : Int) => pureM (decide (x10 < x11))))) (fun (y8 : (List Int)) => (Pz.bindM (pureM y8) fun (x15 : (List Int)) => (Pz.bindM (Pz.bindM (Pz.bindM (pureM y5) fun (x12 : Int) => (Pz.bindM (pureM ()) fun (x13 : Unit) => pureM (x12, x13))) fun (x14 : (Int × Unit)) => pureM ((fun p : (Int × Unit) => [p.1]) x14)) fun (x16 : (List Int)) => optM (catO x15 x16)))) x17) fun (x19 : (List (List Int))) => optM (catO x18 x19))) fun (r7 : (List (List Int))) => (pureM r7))) x20 r1) fun (r21 : ((List (List Int)))) => (Pz.bindM (Pz.bindM (pureM r21) fun (x26 : (List (List Int))) => compM (fun (y22 : (List Int)) => (Pz.bindM (Pz.bindM (pureM y22) fun (x23 : (List Int)) => pureM (x23.length : Int)) fun (x24 : Int) => (Pz.bindM (pureM v_k) fun (x25 : Int) => pureM (decide (x24 = x25))))) (fun (y22 : (List Int)) => (pureM y22)) x26) fun (x27 : (List (List Int))) => optM (srtO (fun r : List Int => !r.isEmpty) (eT eInt) x27))))
theorem ok__law_lots {f : Addr} {fd : FuncData} (F : Fun K "_law_lots" "_law_lots" s__law_lots f fd) (B : Bl mg) :
    FnG P w K mg base 1 f fd ["n", "k"] (SpM (fun p : Int × Int × Unit => [.fz (eInt p.1), .fz (eInt p.2.1)]) (eL (eT eInt)) (fun p : Int × Int × Unit => m__law_lots p.1 p.2.1)) := by
  refine g_ok F sc__law_lots (fun p : Int × Int × Unit => [.fz (eInt p.1), .fz (eInt p.2.1)]) (eL (eT eInt)) (fun p : Int × Int × Unit => m__law_lots p.1 p.2.1) (fun p => [.fz (eInt p.1), .fz (eInt p.2.1), .un, .un, .un]) (fun _ => rfl) (fun _ => rfl) ?_
  intro cdv A above s H E R p hG hr
  obtain ⟨v_n, v_k, uu⟩ := p
  have sc := sc__law_lots
  exact (s_step (Γ1 := fun (r1 : (List (List Int))) => [.fz (eInt v_n), .fz (eInt v_k), .fz ((eL (eT eInt)) r1), .un, .un]) (q_set 2 (f_e (f_list (l_cons (e_tupl l_nil) l_nil))) sc.nd) (fun (r1 : (List (List Int))) => (s_step (Γ1 := (fun (b : ((List (List Int)))) => [.fz (eInt v_n), .fz (eInt v_k), .fz ((eL (eT eInt)) b), .un, .un])) (q_for (set := (st1 3 eInt)) (is := [3]) (fun (b : ((List (List Int)))) => [.fz (eInt v_n), .fz (eInt v_k), .fz ((eL (eT eInt)) b), .un, .un]) r1 (fun (b6 : ((List (List Int)))) (y5 : Int) => (Pz.bindM (Pz.bindM (pureM b6) fun (x18 : (List (List Int))) => (Pz.bindM (Pz.bindM (pureM b6) fun (x17 : (List (List Int))) => compM (fun (y8 : (List Int)) => (Pz.bindM (Pz.bindM (pureM y8) fun (x9 : (List Int)) => pureM (x9.length : Int)) fun (x10 : Int) => (Pz.bindM (pureM v_k) fun (x11 : Int) => pureM (decide (x10 < x11))))) (fun (y8 : (List Int)) => (Pz.bindM (pureM y8) fun (x15 : (List Int)) => (Pz.bindM (Pz.bindM (Pz.bindM (pureM y5) fun (x12 : Int) => (Pz.bindM (pureM ()) fun (x13 : Unit) => pureM (x12, x13))) fun (x14 : (Int × Unit)) => pureM ((fun p : (Int × Unit) => [p.1]) x14)) fun (x16 : (List Int)) => optM (catO x15 x16)))) x17) fun (x19 : (List (List Int))) => optM (catO x18 x19))) fun (r7 : (List (List Int))) => (pureM r7))) PassesOwn.never rfl (i_range1 B.b_range (e_var 0 eInt v_n)) (g1 3 eInt sc.nd) noow1 (.eq (.eq (.eq (.un (.un .nil))))) (fun (b6 : ((List (List Int)))) (y5 : Int) => (s_step (Γ1 := fun (r7 : (List (List Int))) => [.fz (eInt v_n), .fz (eInt v_k), .fz ((eL (eT eInt)) r7), .fz (eInt y5), .un]) (q_set 2 (f_e (f_catL (e_var 2 (eL (eT eInt)) b6) (f_e (f_lc (set := (st1 4 (eT eInt))) (is := [4]) [("lot", 4)] (fun (y8 : (List Int)) => (Pz.bindM (Pz.bindM (pureM y8) fun (x9 : (List Int)) => pureM (x9.length : Int)) fun (x10 : Int) => (Pz.bindM (pureM v_k) fun (x11 : Int) => pureM (decide (x10 < x11))))) (fun (y8 : (List Int)) => (Pz.bindM (pureM y8) fun (x15 : (List Int)) => (Pz.bindM (Pz.bindM (Pz.bindM (pureM y5) fun (x12 : Int) => (Pz.bindM (pureM ()) fun (x13 : Unit) => pureM (x12, x13))) fun (x14 : (Int × Unit)) => pureM ((fun p : (Int × Unit) => [p.1]) x14)) fun (x16 : (List Int)) => optM (catO x15 x16)))) rfl sc.nd (i_list (e_var 2 (eL (eT eInt)) b6)) (blkOk_by (N := N__law_lots) (sc := (defScope s__law_lots)) (by decide +kernel)) (fun _ _ _ _ _ => (g1 4 (eT eInt) sc.nd)) (fun _ _ _ _ _ (y8 : (List Int)) => (c_one (t_lt (e_lenT B.b_len bt_len (e_var 4 (eT eInt) y8)) (e_var 1 eInt v_k)))) (fun _ _ _ _ _ (y8 : (List Int)) => (e_catT (e_var 4 (eT eInt) y8) (e_enc (eb := (eT eInt)) (fun p : (Int × Unit) => [p.1]) (e_tup (eC eInt eU) (a_cons (e_var 3 eInt y5) a_nil) (hl := fun _ => (by decide : 1 ≤ sizeLine))) (fun _ => rfl)))) noow1 sm1 (fun _ h => h) (noOw rfl))))) sc.nd) (fun (r7 : (List (List Int))) => (s_nilN (Γb := (fun (b : ((List (List Int)))) => [.fz (eInt v_n), .fz (eInt v_k), .fz ((eL (eT eInt)) b), .un, .un])) r7 (.eq (.eq (.eq (.un (.un .nil)))))))))) (fun (r21 : ((List (List Int)))) => (s_ret0 (f_e (f_b1 (ea := (eL (eT eInt))) (ec := (eT eInt)) (f := fun x => srtO (fun r : List Int => !r.isEmpty) (eT eInt) x) (call_sortD Srt.rows hr.units) v_sort B.b_sorted bt_sorted (f_e (f_lc (set := (st1 4 (eT eInt))) (is := [4]) [("lot", 4)] (fun (y22 : (List Int)) => (Pz.bindM (Pz.bindM (pureM y22) fun (x23 : (List Int)) => pureM (x23.length : Int)) fun (x24 : Int) => (Pz.bindM (pureM v_k) fun (x25 : Int) => pureM (decide (x24 = x25))))) (fun (y22 : (List Int)) => (pureM y22)) rfl sc.nd (i_list (e_var 2 (eL (eT eInt)) r21)) (blkOk_by (N := N__law_lots) (sc := (defScope s__law_lots)) (by decide +kernel)) (fun _ _ _ _ _ => (g1 4 (eT eInt) sc.nd)) (fun _ _ _ _ _ (y22 : (List Int)) => (c_one (t_eqI (e_lenT B.b_len bt_len (e_var 4 (eT eInt) y22)) (e_var 1 eInt v_k)))) (fun _ _ _ _ _ (y22 : (List Int)) => (e_var 4 (eT eInt) y22)) noow1 sm1 (fun _ h => h) (noOw rfl))))))))))

abbrev s__law_pairs : Stmt := topS 17
def N__law_pairs : List Str := ["source", "n", "c", "way", "row", "told", "b", "a", "step"]
theorem sc__law_pairs : FnScope N__law_pairs ["source", "n", "c"] (defScope s__law_pairs) := ⟨rfl, rfl, rfl, by decide +kernel, rfl, by decide +kernel, by decide +kernel⟩
def m__law_pairs (v_n : Int) (v_c : Int) : M (Int × Int × (List Int) × Unit) := (Pz.bindM (Pz.bindM (Pz.bindM (pureM (3 : Int)) fun (x3 : Int) => m__law_pick x3) fun (x4 : Int) => (Pz.bindM (smallM (pureM ([] : List Int))) fun (x5 : (List Int)) => pureM (x4, x5))) fun (r1 : (Int × (List Int))) => (Pz.bindM (Pz.bindM (Pz.bindM (Pz.bindM (pureM v_n) fun (x7 : Int) => (Pz.bindM (pureM (1 : Int)) fun (x8 : Int) => pureM (x7 + x8))) fun (x9 : Int) => rangeM 0 x9) fun (x12 : (List Int)) => compM (fun (y10 : Int) => (pureM true)) (fun (y10 : Int) => (Pz.bindM (pureM v_c) fun (x11 : Int) => m__law_pick x11)) x12) fun (r6 : (List Int)) => (Pz.bindM (Pz.bindM (Pz.bindM (pureM v_n) fun (x13 : Int) => rangeM 0 x13) fun (x43 : (List Int)) => forM' (fun (b15 : ((List Int))) (y14 : Int) => (Pz.bindM (Pz.bindM (Pz.bindM (pureM y14) fun (x16 : Int) => rangeM 0 x16) fun (x41 : (List Int)) => forM' (fun (b18 : ((List Int))) (y17 : Int) => (Pz.bindM (Pz.bindM (Pz.bindM (pureM y14) fun (x20 : Int) => (Pz.bindM (pureM y17) fun (x21 : Int) => pureM (x20 - x21))) fun (x26 : Int) => (Pz.bindM (Pz.bindM (Pz.bindM (pureM v_n) fun (x22 : Int) => (Pz.bindM (pureM y14) fun (x23 : Int) => pureM (x22 - x23))) fun (x24 : Int) => (Pz.bindM (pureM y17) fun (x25 : Int) => pureM (x24 + x25))) fun (x27 : Int) => optM (some (min x26 x27)))) fun (r19 : Int) => (Pz.bindM (Pz.bindM (Pz.bindM (Pz.bindM (pureM r1.1) fun (x29 : Int) => (Pz.bindM (pureM (0 : Int)) fun (x30 : Int) => pureM (decide (x29 = x30)))) fun (x39 : Bool) => if x39 then (Pz.bindM (pureM v_c) fun (x31 : Int) => m__law_pick x31) else (Pz.bindM (Pz.bindM (pureM r1.1) fun (x32 : Int) => (Pz.bindM (pureM (1 : Int)) fun (x33 : Int) => pureM (decide (x32 = x33)))) fun (x38 : Bool) => if x38 then (Pz.bindM (pureM r6) fun (x34 : (List Int)) => (Pz.bindM (pureM r19) fun (x35 : Int) => optM (atI x34 x35))) else (Pz.bindM (pureM r6) fun (x36 : (List Int)) => (Pz.bindM (pureM y17) fun (x37 : Int) => optM (atI x36 x37))))) fun (x40 : Int) => appM b18 x40) fun (r28 : (List Int)) => (pureM r28)))) x41 b15) fun (r42 : ((List Int))) => (pureM r42))) x43 r1.2) fun (r44 : ((List Int))) => (Pz.bindM (pureM v_n) fun (x50 : Int) => (Pz.bindM (Pz.bindM (pureM v_c) fun (x48 : Int) => (Pz.bindM (Pz.bindM (Pz.bindM (pureM r44) fun (x45 : (List Int)) => optM (some x45)) fun (x46 : (List Int)) => (Pz.bindM (pureM ()) fun (x47 : Unit) => pureM (x46, x47))) fun (x49 : ((List Int) × Unit)) => pureM (x48, x49))) fun (x51 : (Int × ((List Int) × Unit))) => pureM (x50, x51))))))
theorem ok__law_pairs {f : Addr} {fd : FuncData} (F : Fun K "_law_pairs" "_law_pairs" s__law_pairs f fd) (B : Bl mg)
    {f__law_pick : Addr} {d__law_pick : FuncData} (C__law_pick : Cal K mg "_law_pick" f__law_pick d__law_pick ["source", "most"]) (F__law_pick : FnG P w K mg base 1 f__law_pick d__law_pick ["source", "most"] (SpM (fun p : Int × Unit => [.src, .fz (eInt p.1)]) eInt (fun p => pickM p.1))) :
    FnG P w K mg base 2 f fd ["source", "n", "c"] (SpM (fun p : Int × Int × Unit => [.src, .fz (eInt p.1), .fz (eInt p.2.1)]) (eP (eC eInt (eC eInt (eC (eT eInt) eU)))) (fun p : Int × Int × Unit => m__law_pairs p.1 p.2.1)) := by
  refine g_ok F sc__law_pairs (fun p : Int × Int × Unit => [.src, .fz (eInt p.1), .fz (eInt p.2.1)]) (eP (eC eInt (eC eInt (eC (eT eInt) eU)))) (fun p : Int × Int × Unit => m__law_pairs p.1 p.2.1) (fun p => [.src, .fz (eInt p.1), .fz (eInt p.2.1), .un, .un, .un, .un, .un, .un]) (fun _ => rfl) (fun _ => rfl) ?_
  intro cdv A above s H E R p hG hr
  obtain ⟨v_n, v_c, uu⟩ := p
  have sc := sc__law_pairs
  exact (s_step (Γ1 := fun (r1 : (Int × (List Int))) => [.src, .fz (eInt v_n), .fz (eInt v_c), .fz (eInt r1.1), .ow ((eL eInt) r1.2), .un, .un, .un, .un]) (q_par2o 3 4 (e_cs1 0 (F__law_pick.mono (by decide)) hG hr C__law_pick.mg C__law_pick.kp C__law_pick.bd e_int) (f_list l_nil) rfl sc.nd) (fun (r1 : (Int × (List Int))) => (s_step (Γ1 := fun (r6 : (List Int)) => [.src, .fz (eInt v_n), .fz (eInt v_c), .fz (eInt r1.1), .ow ((eL eInt) r1.2), .fz ((eL eInt) r6), .un, .un, .un]) (q_setLcE 5 (set := (st1 8 eInt)) (is := [8]) [("step", 8)] (fun (y10 : Int) => (pureM true)) (fun (y10 : Int) => (Pz.bindM (pureM v_c) fun (x11 : Int) => m__law_pick x11)) rfl sc.nd (sw_true rfl rfl rfl (by decide +kernel)) (i_range1 B.b_range (e_add (e_var 1 eInt v_n) e_int)) (blkOk_by (N := N__law_pairs) (sc := (defScope s__law_pairs)) (by decide +kernel)) (fun _ _ _ _ _ => (g1 8 eInt sc.nd)) (fun _ _ _ _ _ (y10 : Int) => c_nil) (fun _ _ _ _ _ (y10 : Int) => (e_cs1 0 (F__law_pick.mono (by decide)) hG hr C__law_pick.mg C__law_pick.kp C__law_pick.bd (e_var 2 eInt v_c))) noow1 sm1 (fun _ h => h) (noOw rfl)) (fun (r6 : (List Int)) => (s_step (Γ1 := (fun (b : ((List Int))) => [.src, .fz (eInt v_n), .fz (eInt v_c), .fz (eInt r1.1), .ow ((eL eInt) b), .fz ((eL eInt) r6), .un, .un, .un])) (q_for (set := (st1 6 eInt)) (is := [6]) (fun (b : ((List Int))) => [.src, .fz (eInt v_n), .fz (eInt v_c), .fz (eInt r1.1), .ow ((eL eInt) b), .fz ((eL eInt) r6), .un, .un, .un]) r1.2 (fun (b15 : ((List Int))) (y14 : Int) => (Pz.bindM (Pz.bindM (Pz.bindM (pureM y14) fun (x16 : Int) => rangeM 0 x16) fun (x41 : (List Int)) => forM' (fun (b18 : ((List Int))) (y17 : Int) => (Pz.bindM (Pz.bindM (Pz.bindM (pureM y14) fun (x20 : Int) => (Pz.bindM (pureM y17) fun (x21 : Int) => pureM (x20 - x21))) fun (x26 : Int) => (Pz.bindM (Pz.bindM (Pz.bindM (pureM v_n) fun (x22 : Int) => (Pz.bindM (pureM y14) fun (x23 : Int) => pureM (x22 - x23))) fun (x24 : Int) => (Pz.bindM (pureM y17) fun (x25 : Int) => pureM (x24 + x25))) fun (x27 : Int) => optM (some (min x26 x27)))) fun (r19 : Int) => (Pz.bindM (Pz.bindM (Pz.bindM (Pz.bindM (pureM r1.1) fun (x29 : Int) => (Pz.bindM (pureM (0 : Int)) fun (x30 : Int) => pureM (decide (x29 = x30)))) fun (x39 : Bool) => if x39 then (Pz.bindM (pureM v_c) fun (x31 : Int) => m__law_pick x31) else (Pz.bindM (Pz.bindM (pureM r1.1) fun (x32 : Int) => (Pz.bindM (pureM (1 : Int)) fun (x33 : Int) => pureM (decide (x32 = x33)))) fun (x38 : Bool) => if x38 then (Pz.bindM (pureM r6) fun (x34 : (List Int)) => (Pz.bindM (pureM r19) fun (x35 : Int) => optM (atI x34 x35))) else (Pz.bindM (pureM r6) fun (x36 : (List Int)) => (Pz.bindM (pureM y17) fun (x37 : Int) => optM (atI x36 x37))))) fun (x40 : Int) => appM b18 x40) fun (r28 : (List Int)) => (pureM r28)))) x41 b15) fun (r42 : ((List Int))) => (pureM r42))) PassesOwn.never rfl (i_range1 B.b_range (e_var 1 eInt v_n)) (g1 6 eInt sc.nd) noow1 (.eq (.eq (.eq (.eq (.eq (.eq (.un (.un (.un .nil))))))))) (fun (b15 : ((List Int))) (y14 : Int) => (s_step (Γ1 := (fun (b : ((List Int))) => [.src, .fz (eInt v_n), .fz (eInt v_c), .fz (eInt r1.1), .ow ((eL eInt) b), .fz ((eL eInt) r6), .fz (eInt y14), .un, .un])) (q_for (set := (st1 7 eInt)) (is := [7]) (fun (b : ((List Int))) => [.src, .fz (eInt v_n), .fz (eInt v_c), .fz (eInt r1.1), .ow ((eL eInt) b), .fz ((eL eInt) r6), .fz (eInt y14), .un, .un]) b15 (fun (b18 : ((List Int))) (y17 : Int) => (Pz.bindM (Pz.bindM (Pz.bindM (pureM y14) fun (x20 : Int) => (Pz.bindM (pureM y17) fun (x21 : Int) => pureM (x20 - x21))) fun (x26 : Int) => (Pz.bindM (Pz.bindM (Pz.bindM (pureM v_n) fun (x22 : Int) => (Pz.bindM (pureM y14) fun (x23 : Int) => pureM (x22 - x23))) fun (x24 : Int) => (Pz.bindM (pureM y17) fun (x25 : Int) => pureM (x24 + x25))) fun (x27 : Int) => optM (some (min x26 x27)))) fun (r19 : Int) => (Pz.bindM (Pz.bindM (Pz.bindM (Pz.bindM (pureM r1.1) fun (x29 : Int) => (Pz.bindM (pureM (0 : Int)) fun (x30 : Int) => pureM (decide (x29 = x30)))) fun (x39 : Bool) => if x39 then (Pz.bindM (pureM v_c) fun (x31 : Int) => m__law_pick x31) else (Pz.bindM (Pz.bindM (pureM r1.1) fun (x32 : Int) => (Pz.bindM (pureM (1 : Int)) fun (x33 : Int) => pureM (decide (x32 = x33)))) fun (x38 : Bool) => if x38 then (Pz.bindM (pureM r6) fun (x34 : (List Int)) => (Pz.bindM (pureM r19) fun (x35 : Int) => optM (atI x34 x35))) else (Pz.bindM (pureM r6) fun (x36 : (List Int)) => (Pz.bindM (pureM y17) fun (x37 : Int) => optM (atI x36 x37))))) fun (x40 : Int) => appM b18 x40) fun (r28 : (List Int)) => (pureM r28)))) PassesOwn.never rfl (i_range1 B.b_range (e_var 6 eInt y14)) (g1 7 eInt sc.nd) noow1 (.eq (.eq (.eq (.eq (.eq (.eq (.eq (.un (.un .nil))))))))) (fun (b18 : ((List Int))) (y17 : Int) => (s_step (Γ1 := fun (r19 : Int) => [.src, .fz (eInt v_n), .fz (eInt v_c), .fz (eInt r1.1), .ow ((eL eInt) b18), .fz ((eL eInt) r6), .fz (eInt y14), .fz (eInt y17), .fz (eInt r19)]) (q_set 8 (e_b2 (ea := eInt) (eb := eInt) (ec := eInt) (f := fun x y => some (min x y)) (call_min2 rfl) v_min2 B.b_min bt_min (e_sub (e_var 6 eInt y14) (e_var 7 eInt y17)) (e_add (e_sub (e_var 1 eInt v_n) (e_var 6 eInt y14)) (e_var 7 eInt y17))) sc.nd) (fun (r19 : Int) => (s_step (Γ1 := fun (r28 : (List Int)) => [.src, .fz (eInt v_n), .fz (eInt v_c), .fz (eInt r1.1), .ow ((eL eInt) r28), .fz ((eL eInt) r6), .fz (eInt y14), .fz (eInt y17), .fz (eInt r19)]) (q_app 4 b18 (e_if (t_eqI (e_var 3 eInt r1.1) e_int) (e_cs1 0 (F__law_pick.mono (by decide)) hG hr C__law_pick.mg C__law_pick.kp C__law_pick.bd (e_var 2 eInt v_c)) (e_if (t_eqI (e_var 3 eInt r1.1) e_int) (e_ixL (e_var 5 (eL eInt) r6) (e_var 8 eInt r19)) (e_ixL (e_var 5 (eL eInt) r6) (e_var 7 eInt y17))))) (fun (r28 : (List Int)) => (s_nilN (Γb := (fun (b : ((List Int))) => [.src, .fz (eInt v_n), .fz (eInt v_c), .fz (eInt r1.1), .ow ((eL eInt) b), .fz ((eL eInt) r6), .fz (eInt y14), .un, .un])) r28 (.eq (.eq (.eq (.eq (.eq (.eq (.eq (.un (.un .nil)))))))))))))))) (fun (r42 : ((List Int))) => (s_nilN (Γb := (fun (b : ((List Int))) => [.src, .fz (eInt v_n), .fz (eInt v_c), .fz (eInt r1.1), .ow ((eL eInt) b), .fz ((eL eInt) r6), .un, .un, .un])) r42 (.eq (.eq (.eq (.eq (.eq (.eq (.un (.un (.un .nil)))))))))))))) (fun (r44 : ((List Int))) => (s_low (Γ' := [.src, .fz (eInt v_n), .fz (eInt v_c), .fz (eInt r1.1), .fz ((eL eInt) r44), .fz ((eL eInt) r6), .un, .un, .un]) (.eq (.eq (.eq (.eq (.fr (.eq (.un (.un (.un .nil))))))))) (s_ret0 (e_tup (eC eInt (eC eInt (eC (eT eInt) eU))) (a_cons (e_var 1 eInt v_n) (a_cons (e_var 2 eInt v_c) (a_cons (e_t1 (ea := (eL eInt)) (ec := (eT eInt)) (f := fun x => some x) call_tuple_of v_tupL B.b_tuple bt_tuple (e_var 4 (eL eInt) r44)) a_nil))) (hl := fun _ => (by decide : 3 ≤ sizeLine)))))))))))

abbrev s__law_color : Stmt := topS 18
def N__law_color : List Str := ["pairs", "a", "b", "low", "high"]
theorem sc__law_color : FnScope N__law_color ["pairs", "a", "b"] (defScope s__law_color) := ⟨rfl, rfl, rfl, by decide +kernel, rfl, by decide +kernel, by decide +kernel⟩
def m__law_color (v_pairs : (Int × Int × (List Int) × Unit)) (v_a : Int) (v_b : Int) : M Int := (Pz.bindM (Pz.bindM (Pz.bindM (pureM v_a) fun (x2 : Int) => (Pz.bindM (pureM v_b) fun (x3 : Int) => optM (some (min x2 x3)))) fun (x6 : Int) => (Pz.bindM (Pz.bindM (pureM v_a) fun (x4 : Int) => (Pz.bindM (pureM v_b) fun (x5 : Int) => optM (some (max x4 x5)))) fun (x7 : Int) => pureM (x6, x7))) fun (r1 : (Int × Int)) => (Pz.bindM (Pz.bindM (pureM v_pairs) fun (x8 : (Int × Int × (List Int) × Unit)) => pureM (x8.2.2.1)) fun (x17 : (List Int)) => (Pz.bindM (Pz.bindM (Pz.bindM (Pz.bindM (pureM r1.2) fun (x11 : Int) => (Pz.bindM (Pz.bindM (pureM r1.2) fun (x9 : Int) => (Pz.bindM (pureM (1 : Int)) fun (x10 : Int) => pureM (x9 - x10))) fun (x12 : Int) => optM (mulO x11 x12))) fun (x13 : Int) => (Pz.bindM (pureM (2 : Int)) fun (x14 : Int) => optM (divO x13 x14))) fun (x15 : Int) => (Pz.bindM (pureM r1.1) fun (x16 : Int) => pureM (x15 + x16))) fun (x18 : Int) => optM (atI x17 x18))))
theorem ok__law_color {f : Addr} {fd : FuncData} (F : Fun K "_law_color" "_law_color" s__law_color f fd) (B : Bl mg) :
    FnG P w K mg base 1 f fd ["pairs", "a", "b"] (SpM (fun p : (Int × Int × (List Int) × Unit) × Int × Int × Unit => [.fz ((eP (eC eInt (eC eInt (eC (eT eInt) eU)))) p.1), .fz (eInt p.2.1), .fz (eInt p.2.2.1)]) eInt (fun p : (Int × Int × (List Int) × Unit) × Int × Int × Unit => m__law_color p.1 p.2.1 p.2.2.1)) := by
  refine g_ok F sc__law_color (fun p : (Int × Int × (List Int) × Unit) × Int × Int × Unit => [.fz ((eP (eC eInt (eC eInt (eC (eT eInt) eU)))) p.1), .fz (eInt p.2.1), .fz (eInt p.2.2.1)]) eInt (fun p : (Int × Int × (List Int) × Unit) × Int × Int × Unit => m__law_color p.1 p.2.1 p.2.2.1) (fun p => [.fz ((eP (eC eInt (eC eInt (eC (eT eInt) eU)))) p.1), .fz (eInt p.2.1), .fz (eInt p.2.2.1), .un, .un]) (fun _ => rfl) (fun _ => rfl) ?_
  intro cdv A above s H E R p hG hr
  obtain ⟨v_pairs, v_a, v_b, uu⟩ := p
  have sc := sc__law_color
  exact (s_step (Γ1 := fun (r1 : (Int × Int)) => [.fz ((eP (eC eInt (eC eInt (eC (eT eInt) eU)))) v_pairs), .fz (eInt v_a), .fz (eInt v_b), .fz (eInt r1.1), .fz (eInt r1.2)]) (q_par2 3 4 (e_b2 (ea := eInt) (eb := eInt) (ec := eInt) (f := fun x y => some (min x y)) (call_min2 rfl) v_min2 B.b_min bt_min (e_var 1 eInt v_a) (e_var 2 eInt v_b)) (e_b2 (ea := eInt) (eb := eInt) (ec := eInt) (f := fun x y => some (max x y)) (call_max2 rfl) v_max2 B.b_max bt_max (e_var 1 eInt v_a) (e_var 2 eInt v_b)) rfl sc.nd) (fun (r1 : (Int × Int)) => (s_ret0 (e_ixT (e_ixP (ec := (eT eInt)) (f := (eC eInt (eC eInt (eC (eT eInt) eU)))) (fun p => p.2.2.1) 2 (ha := (e_var 0 (eP (eC eInt (eC eInt (eC (eT eInt) eU)))) v_pairs))) (e_add (e_div (e_mul (e_var 4 eInt r1.2) (e_sub (e_var 4 eInt r1.2) e_int)) e_int) (e_var 3 eInt r1.1))))))

abbrev s__law_one : Stmt := topS 19
def N__law_one : List Str := ["pairs", "lot", "color", "k", "b", "a"]
theorem sc__law_one : FnScope N__law_one ["pairs", "lot", "color"] (defScope s__law_one) := ⟨rfl, rfl, rfl, by decide +kernel, rfl, by decide +kernel, by decide +kernel⟩
def m__law_one (v_pairs : (Int × Int × (List Int) × Unit)) (v_lot : (List Int)) (v_color : Int) : M Bool := (Pz.bindM (Pz.bindM (Pz.bindM (pureM v_lot) fun (x1 : (List Int)) => pureM (enumL x1)) fun (x19 : (List (Int × Int × Unit))) => forO (fun (b3 : Unit) (y2 : (Int × Int × Unit)) => (Pz.bindM (Pz.bindM (Pz.bindM (Pz.bindM (pureM v_lot) fun (x5 : (List Int)) => (Pz.bindM (pureM (none : Option Int)) fun (x6 : (Option Int)) => (Pz.bindM (Pz.bindM (pureM y2.1) fun (x4 : Int) => pureM (some x4)) fun (x7 : (Option Int)) => pureM (cutL x5 x6 x7)))) fun (x14 : (List Int)) => compM (fun (y8 : Int) => (Pz.bindM (Pz.bindM (pureM v_pairs) fun (x9 : (Int × Int × (List Int) × Unit)) => (Pz.bindM (pureM y8) fun (x10 : Int) => (Pz.bindM (pureM y2.2.1) fun (x11 : Int) => m__law_color x9 x10 x11))) fun (x12 : Int) => (Pz.bindM (pureM v_color) fun (x13 : Int) => pureM (!decide (x12 = x13))))) (fun (y8 : Int) => (pureM y8)) x14) fun (x15 : (List Int)) => (Pz.bindM (smallM (pureM ([] : List Int))) fun (x16 : (List Int)) => pureM (!decide (x15 = x16)))) fun (x17 : Bool) => if x17 then Pz.bindM (pureM false) (fun (x18 : Bool) => pureM (Out.rt x18)) else (pureM (Out.nx ())))) x19 ()) fun o => caseO o (fun (r20 : Unit) => (pureM true)) pureM)
theorem ok__law_one {f : Addr} {fd : FuncData} (F : Fun K "_law_one" "_law_one" s__law_one f fd) (B : Bl mg)
    {f__law_color : Addr} {d__law_color : FuncData} (C__law_color : Cal K mg "_law_color" f__law_color d__law_color ["pairs", "a", "b"]) (F__law_color : FnG P w K mg base 1 f__law_color d__law_color ["pairs", "a", "b"] (SpM (fun p : (Int × Int × (List Int) × Unit) × Int × Int × Unit => [.fz ((eP (eC eInt (eC eInt (eC (eT eInt) eU)))) p.1), .fz (eInt p.2.1), .fz (eInt p.2.2.1)]) eInt (fun p : (Int × Int × (List Int) × Unit) × Int × Int × Unit => m__law_color p.1 p.2.1 p.2.2.1))) :
    FnG P w K mg base 2 f fd ["pairs", "lot", "color"] (SpM (fun p : (Int × Int × (List Int) × Unit) × (List Int) × Int × Unit => [.fz ((eP (eC eInt (eC eInt (eC (eT eInt) eU)))) p.1), .fz ((eT eInt) p.2.1), .fz (eInt p.2.2.1)]) eBool (fun p : (Int × Int × (List Int) × Unit) × (List Int) × Int × Unit => m__law_one p.1 p.2.1 p.2.2.1)) := by
  refine g_ok F sc__law_one (fun p : (Int × Int × (List Int) × Unit) × (List Int) × Int × Unit => [.fz ((eP (eC eInt (eC eInt (eC (eT eInt) eU)))) p.1), .fz ((eT eInt) p.2.1), .fz (eInt p.2.2.1)]) eBool (fun p : (Int × Int × (List Int) × Unit) × (List Int) × Int × Unit => m__law_one p.1 p.2.1 p.2.2.1) (fun p => [.fz ((eP (eC eInt (eC eInt (eC (eT eInt) eU)))) p.1), .fz ((eT eInt) p.2.1), .fz (eInt p.2.2.1), .un, .un, .un]) (fun _ => rfl) (fun _ => rfl) ?_
  intro cdv A above s H E R p hG hr
  obtain ⟨v_pairs, v_lot, v_color, uu⟩ := p
  have sc := sc__law_one
  exact (s_step1 (er := eBool) (Γ1 := (fun (b : Unit) => [.fz ((eP (eC eInt (eC eInt (eC (eT eInt) eU)))) v_pairs), .fz ((eT eInt) v_lot), .fz (eInt v_color), .un, .un, .un])) (q_forO (er := eBool) (set := (st2 3 eInt 4 eInt)) (is := [3, 4]) (fun (b : Unit) => [.fz ((eP (eC eInt (eC eInt (eC (eT eInt) eU)))) v_pairs), .fz ((eT eInt) v_lot), .fz (eInt v_color), .un, .un, .un]) () (fun (b3 : Unit) (y2 : (Int × Int × Unit)) => (Pz.bindM (Pz.bindM (Pz.bindM (Pz.bindM (pureM v_lot) fun (x5 : (List Int)) => (Pz.bindM (pureM (none : Option Int)) fun (x6 : (Option Int)) => (Pz.bindM (Pz.bindM (pureM y2.1) fun (x4 : Int) => pureM (some x4)) fun (x7 : (Option Int)) => pureM (cutL x5 x6 x7)))) fun (x14 : (List Int)) => compM (fun (y8 : Int) => (Pz.bindM (Pz.bindM (pureM v_pairs) fun (x9 : (Int × Int × (List Int) × Unit)) => (Pz.bindM (pureM y8) fun (x10 : Int) => (Pz.bindM (pureM y2.2.1) fun (x11 : Int) => m__law_color x9 x10 x11))) fun (x12 : Int) => (Pz.bindM (pureM v_color) fun (x13 : Int) => pureM (!decide (x12 = x13))))) (fun (y8 : Int) => (pureM y8)) x14) fun (x15 : (List Int)) => (Pz.bindM (smallM (pureM ([] : List Int))) fun (x16 : (List Int)) => pureM (!decide (x15 = x16)))) fun (x17 : Bool) => if x17 then Pz.bindM (pureM false) (fun (x18 : Bool) => pureM (Out.rt x18)) else (pureM (Out.nx ())))) PassesOwn.never rfl (i_enumT B.b_enumerate (e_var 1 (eT eInt) v_lot)) (g2 3 4 eInt eInt rfl sc.nd) noow2 (.eq (.eq (.eq (.un (.un (.un .nil)))))) (fun (b3 : Unit) (y2 : (Int × Int × Unit)) => (s_ifret2 (Γb := (fun (b : Unit) => [.fz ((eP (eC eInt (eC eInt (eC (eT eInt) eU)))) v_pairs), .fz ((eT eInt) v_lot), .fz (eInt v_color), .un, .un, .un])) (t_neP (n := 1) hr (Dc.lst Dc.int) (f_e (f_lc (set := (st1 5 eInt)) (is := [5]) [("a", 5)] (fun (y8 : Int) => (Pz.bindM (Pz.bindM (pureM v_pairs) fun (x9 : (Int × Int × (List Int) × Unit)) => (Pz.bindM (pureM y8) fun (x10 : Int) => (Pz.bindM (pureM y2.2.1) fun (x11 : Int) => m__law_color x9 x10 x11))) fun (x12 : Int) => (Pz.bindM (pureM v_color) fun (x13 : Int) => pureM (!decide (x12 = x13))))) (fun (y8 : Int) => (pureM y8)) rfl sc.nd (i_tup (e_slT (e_var 1 (eT eInt) v_lot) p_none (p_some (e_var 3 eInt y2.1)))) (blkOk_by (N := N__law_one) (sc := (defScope s__law_one)) (by decide +kernel)) (fun _ _ _ _ _ => (g1 5 eInt sc.nd)) (fun _ _ _ _ _ (y8 : Int) => (c_one (t_neI (e_c3 (F__law_color.mono (by decide)) hG hr C__law_color.mg C__law_color.kp C__law_color.bd (e_var 0 (eP (eC eInt (eC eInt (eC (eT eInt) eU)))) v_pairs) (e_var 5 eInt y8) (e_var 4 eInt y2.2.1)) (e_var 2 eInt v_color)))) (fun _ _ _ _ _ (y8 : Int) => (e_var 5 eInt y8)) noow1 sm1 (fun _ h => h) (noOw rfl))) (f_e (f_list l_nil))) (s_ret0 e_bool) (s_nilO (Γb := (fun (b : Unit) => [.fz ((eP (eC eInt (eC eInt (eC (eT eInt) eU)))) v_pairs), .fz ((eT eInt) v_lot), .fz (eInt v_color), .un, .un, .un])) () (.eq (.eq (.eq (.un (.un (.un .nil)))))))))) (fun (r20 : Unit) => (s_ret0 e_bool)))

abbrev s__law_told : Stmt := topS 20
def N__law_told : List Str := ["pairs", "sizes", "i", "k", "some", "lot"]
theorem sc__law_told : FnScope N__law_told ["pairs", "sizes"] (defScope s__law_told) := ⟨rfl, rfl, rfl, by decide +kernel, rfl, by decide +kernel, by decide +kernel⟩
def m__law_told (v_pairs : (Int × Int × (List Int) × Unit)) (v_sizes : (List Int)) : M PyData := (Pz.bindM (Pz.bindM (Pz.bindM (pureM v_sizes) fun (x1 : (List Int)) => pureM (enumL x1)) fun (x26 : (List (Int × Int × Unit))) => forO (fun (b3 : Unit) (y2 : (Int × Int × Unit)) => (Pz.bindM (Pz.bindM (Pz.bindM (Pz.bindM (pureM v_pairs) fun (x5 : (Int × Int × (List Int) × Unit)) => pureM (x5.1)) fun (x6 : Int) => (Pz.bindM (pureM y2.2.1) fun (x7 : Int) => m__law_lots x6 x7)) fun (x12 : (List (List Int))) => compM (fun (y8 : (List Int)) => (Pz.bindM (pureM v_pairs) fun (x9 : (Int × Int × (List Int) × Unit)) => (Pz.bindM (pureM y8) fun (x10 : (List Int)) => (Pz.bindM (pureM y2.1) fun (x11 : Int) => m__law_one x9 x10 x11)))) (fun (y8 : (List Int)) => (pureM y8)) x12) fun (r4 : (List (List Int))) => (Pz.bindM (Pz.bindM (pureM r4) fun (x13 : (List (List Int))) => (Pz.bindM (smallM (pureM ([] : List (List Int)))) fun (x14 : (List (List Int))) => pureM (!decide (x13 = x14)))) fun (x15 : Bool) => if x15 then Pz.bindM (Pz.bindM (Pz.bindM (pureM ("lot" : Str)) fun (x22 : Str) => (Pz.bindM (Pz.bindM (pureM y2.1) fun (x20 : Int) => (Pz.bindM (Pz.bindM (Pz.bindM (pureM r4) fun (x16 : (List (List Int))) => (Pz.bindM (pureM (0 : Int)) fun (x17 : Int) => optM (atI x16 x17))) fun (x18 : (List Int)) => (Pz.bindM (pureM ()) fun (x19 : Unit) => pureM (x18, x19))) fun (x21 : ((List Int) × Unit)) => pureM (x20, x21))) fun (x23 : (Int × ((List Int) × Unit))) => pureM (x22, x23))) fun (x24 : (Str × Int × (List Int) × Unit)) => pureM ((eP (eC eStr (eC eInt (eC (eT eInt) eU)))) x24)) (fun (x25 : PyData) => pureM (Out.rt x25)) else (pureM (Out.nx ()))))) x26 ()) fun o => caseO o (fun (r27 : Unit) => (Pz.bindM (Pz.bindM (pureM ("none" : Str)) fun (x28 : Str) => (Pz.bindM (pureM ()) fun (x29 : Unit) => pureM (x28, x29))) fun (x30 : (Str × Unit)) => pureM ((eP (eC eStr eU)) x30))) pureM)
theorem ok__law_told {f : Addr} {fd : FuncData} (F : Fun K "_law_told" "_law_told" s__law_told f fd) (B : Bl mg)
    {f__law_lots : Addr} {d__law_lots : FuncData} (C__law_lots : Cal K mg "_law_lots" f__law_lots d__law_lots ["n", "k"]) (F__law_lots : FnG P w K mg base 1 f__law_lots d__law_lots ["n", "k"] (SpM (fun p : Int × Int × Unit => [.fz (eInt p.1), .fz (eInt p.2.1)]) (eL (eT eInt)) (fun p : Int × Int × Unit => m__law_lots p.1 p.2.1)))
    {f__law_one : Addr} {d__law_one : FuncData} (C__law_one : Cal K mg "_law_one" f__law_one d__law_one ["pairs", "lot", "color"]) (F__law_one : FnG P w K mg base 2 f__law_one d__law_one ["pairs", "lot", "color"] (SpM (fun p : (Int × Int × (List Int) × Unit) × (List Int) × Int × Unit => [.fz ((eP (eC eInt (eC eInt (eC (eT eInt) eU)))) p.1), .fz ((eT eInt) p.2.1), .fz (eInt p.2.2.1)]) eBool (fun p : (Int × Int × (List Int) × Unit) × (List Int) × Int × Unit => m__law_one p.1 p.2.1 p.2.2.1))) :
    FnG P w K mg base 3 f fd ["pairs", "sizes"] (SpM (fun p : (Int × Int × (List Int) × Unit) × (List Int) × Unit => [.fz ((eP (eC eInt (eC eInt (eC (eT eInt) eU)))) p.1), .fz ((eT eInt) p.2.1)]) eD (fun p : (Int × Int × (List Int) × Unit) × (List Int) × Unit => m__law_told p.1 p.2.1)) := by
  refine g_ok F sc__law_told (fun p : (Int × Int × (List Int) × Unit) × (List Int) × Unit => [.fz ((eP (eC eInt (eC eInt (eC (eT eInt) eU)))) p.1), .fz ((eT eInt) p.2.1)]) eD (fun p : (Int × Int × (List Int) × Unit) × (List Int) × Unit => m__law_told p.1 p.2.1) (fun p => [.fz ((eP (eC eInt (eC eInt (eC (eT eInt) eU)))) p.1), .fz ((eT eInt) p.2.1), .un, .un, .un, .un]) (fun _ => rfl) (fun _ => rfl) ?_
  intro cdv A above s H E R p hG hr
  obtain ⟨v_pairs, v_sizes, uu⟩ := p
  have sc := sc__law_told
  exact (s_step1 (er := eD) (Γ1 := (fun (b : Unit) => [.fz ((eP (eC eInt (eC eInt (eC (eT eInt) eU)))) v_pairs), .fz ((eT eInt) v_sizes), .un, .un, .un, .un])) (q_forO (er := eD) (set := (st2 2 eInt 3 eInt)) (is := [2, 3]) (fun (b : Unit) => [.fz ((eP (eC eInt (eC eInt (eC (eT eInt) eU)))) v_pairs), .fz ((eT eInt) v_sizes), .un, .un, .un, .un]) () (fun (b3 : Unit) (y2 : (Int × Int × Unit)) => (Pz.bindM (Pz.bindM (Pz.bindM (Pz.bindM (pureM v_pairs) fun (x5 : (Int × Int × (List Int) × Unit)) => pureM (x5.1)) fun (x6 : Int) => (Pz.bindM (pureM y2.2.1) fun (x7 : Int) => m__law_lots x6 x7)) fun (x12 : (List (List Int))) => compM (fun (y8 : (List Int)) => (Pz.bindM (pureM v_pairs) fun (x9 : (Int × Int × (List Int) × Unit)) => (Pz.bindM (pureM y8) fun (x10 : (List Int)) => (Pz.bindM (pureM y2.1) fun (x11 : Int) => m__law_one x9 x10 x11)))) (fun (y8 : (List Int)) => (pureM y8)) x12) fun (r4 : (List (List Int))) => (Pz.bindM (Pz.bindM (pureM r4) fun (x13 : (List (List Int))) => (Pz.bindM (smallM (pureM ([] : List (List Int)))) fun (x14 : (List (List Int))) => pureM (!decide (x13 = x14)))) fun (x15 : Bool) => if x15 then Pz.bindM (Pz.bindM (Pz.bindM (pureM ("lot" : Str)) fun (x22 : Str) => (Pz.bindM (Pz.bindM (pureM y2.1) fun (x20 : Int) => (Pz.bindM (Pz.bindM (Pz.bindM (pureM r4) fun (x16 : (List (List Int))) => (Pz.bindM (pureM (0 : Int)) fun (x17 : Int) => optM (atI x16 x17))) fun (x18 : (List Int)) => (Pz.bindM (pureM ()) fun (x19 : Unit) => pureM (x18, x19))) fun (x21 : ((List Int) × Unit)) => pureM (x20, x21))) fun (x23 : (Int × ((List Int) × Unit))) => pureM (x22, x23))) fun (x24 : (Str × Int × (List Int) × Unit)) => pureM ((eP (eC eStr (eC eInt (eC (eT eInt) eU)))) x24)) (fun (x25 : PyData) => pureM (Out.rt x25)) else (pureM (Out.nx ()))))) PassesOwn.never rfl (i_enumT B.b_enumerate (e_var 1 (eT eInt) v_sizes)) (g2 2 3 eInt eInt rfl sc.nd) noow2 (.eq (.eq (.un (.un (.un (.un .nil)))))) (fun (b3 : Unit) (y2 : (Int × Int × Unit)) => (s_step (Γ1 := fun (r4 : (List (List Int))) => [.fz ((eP (eC eInt (eC eInt (eC (eT eInt) eU)))) v_pairs), .fz ((eT eInt) v_sizes), .fz (eInt y2.1), .fz (eInt y2.2.1), .fz ((eL (eT eInt)) r4), .un]) (q_setLcE 4 (set := (st1 5 (eT eInt))) (is := [5]) [("lot", 5)] (fun (y8 : (List Int)) => (Pz.bindM (pureM v_pairs) fun (x9 : (Int × Int × (List Int) × Unit)) => (Pz.bindM (pureM y8) fun (x10 : (List Int)) => (Pz.bindM (pureM y2.1) fun (x11 : Int) => m__law_one x9 x10 x11)))) (fun (y8 : (List Int)) => (pureM y8)) rfl sc.nd (sw_true rfl rfl rfl (by decide +kernel)) (i_list (e_c2 (F__law_lots.mono (by decide)) hG hr C__law_lots.mg C__law_lots.kp C__law_lots.bd (e_ixP (ec := eInt) (f := (eC eInt (eC eInt (eC (eT eInt) eU)))) (fun p => p.1) 0 (ha := (e_var 0 (eP (eC eInt (eC eInt (eC (eT eInt) eU)))) v_pairs))) (e_var 3 eInt y2.2.1))) (blkOk_by (N := N__law_told) (sc := (defScope s__law_told)) (by decide +kernel)) (fun _ _ _ _ _ => (g1 5 (eT eInt) sc.nd)) (fun _ _ _ _ _ (y8 : (List Int)) => (c_one (t_val (e_c3 (F__law_one.mono (by decide)) hG hr C__law_one.mg C__law_one.kp C__law_one.bd (e_var 0 (eP (eC eInt (eC eInt (eC (eT eInt) eU)))) v_pairs) (e_var 5 (eT eInt) y8) (e_var 2 eInt y2.1))))) (fun _ _ _ _ _ (y8 : (List Int)) => (e_var 5 (eT eInt) y8)) noow1 sm1 (fun _ h => h) (noOw rfl)) (fun (r4 : (List (List Int))) => (s_ifret2 (Γb := (fun (b : Unit) => [.fz ((eP (eC eInt (eC eInt (eC (eT eInt) eU)))) v_pairs), .fz ((eT eInt) v_sizes), .un, .un, .un, .un])) (t_neP (n := 2) hr (Dc.lst (Dc.tup Dc.int)) (e_var 4 (eL (eT eInt)) r4) (f_e (f_list l_nil))) (s_ret0 (e_enc (eb := eD) (fun x => (eP (eC eStr (eC eInt (eC (eT eInt) eU)))) x) (e_tup (eC eStr (eC eInt (eC (eT eInt) eU))) (a_cons e_str (a_cons (e_var 2 eInt y2.1) (a_cons (e_ixL (e_var 4 (eL (eT eInt)) r4) e_int) a_nil))) (hl := fun _ => (by decide : 3 ≤ sizeLine))) (fun _ => rfl))) (s_nilO (Γb := (fun (b : Unit) => [.fz ((eP (eC eInt (eC eInt (eC (eT eInt) eU)))) v_pairs), .fz ((eT eInt) v_sizes), .un, .un, .un, .un])) () (.eq (.eq (.un (.un (.un (.un .nil)))))))))))) (fun (r27 : Unit) => (s_ret0 (e_enc (eb := eD) (fun x => (eP (eC eStr eU)) x) (e_tup (eC eStr eU) (a_cons e_str a_nil) (hl := fun _ => (by decide : 1 ≤ sizeLine))) (fun _ => rfl)))))

abbrev s__law_fault : Stmt := topS 21
def N__law_fault : List Str := ["pairs", "sizes", "value", "told", "i", "lot", "k", "b", "off", "a"]
theorem sc__law_fault : FnScope N__law_fault ["pairs", "sizes", "value"] (defScope s__law_fault) := ⟨rfl, rfl, rfl, by decide +kernel, rfl, by decide +kernel, by decide +kernel⟩
def m__law_fault (v_pairs : (Int × Int × (List Int) × Unit)) (v_sizes : (List Int)) (v_value : PyData) : M PyData := (Pz.bindM (Pz.bindM (Pz.bindM (Pz.bindM (pureM v_value) fun (x1 : PyData) => pureM (isTy "tuple" (eD x1))) fun (x2 : Bool) => pureM (!x2)) fun (x16 : Bool) => if x16 then pureM true else (Pz.bindM (Pz.bindM (Pz.bindM (Pz.bindM (pureM v_value) fun (x8 : PyData) => optM (asTup x8)) fun (x10 : (List PyData)) => (Pz.bindM (pureM (none : Option Int)) fun (x11 : (Option Int)) => (Pz.bindM (Pz.bindM (pureM (1 : Int)) fun (x9 : Int) => pureM (some x9)) fun (x12 : (Option Int)) => pureM (cutL x10 x11 x12)))) fun (x13 : (List PyData)) => optM (reprO ((eT eD) x13))) fun (x14 : Str) => (Pz.bindM (Pz.bindM (Pz.bindM (pureM ("('lot',)" : Str)) fun (x5 : Str) => (Pz.bindM (Pz.bindM (pureM ("('none',)" : Str)) fun (x3 : Str) => (Pz.bindM (pureM ()) fun (x4 : Unit) => pureM (x3, x4))) fun (x6 : (Str × Unit)) => pureM (x5, x6))) fun (x7 : (Str × Str × Unit)) => pureM ((fun p : (Str × Str × Unit) => [p.1, p.2.1]) x7)) fun (x15 : (List Str)) => pureM (!decide (x14 ∈ x15))))) fun (x17 : Bool) => if x17 then (Pz.bindM (Pz.bindM (pureM ("form" : Str)) fun (x18 : Str) => (Pz.bindM (pureM ()) fun (x19 : Unit) => pureM (x18, x19))) fun (x20 : (Str × Unit)) => pureM ((eP (eC eStr eU)) x20)) else (Pz.bindM (Pz.bindM (Pz.bindM (Pz.bindM (pureM v_value) fun (x21 : PyData) => optM (asTup x21)) fun (x22 : (List PyData)) => (Pz.bindM (pureM (0 : Int)) fun (x23 : Int) => optM (atI x22 x23))) fun (x24 : PyData) => (Pz.bindM (pureM ("none" : Str)) fun (x25 : Str) => optM (eqZ (eD x24) (eStr x25)))) fun (x26 : Bool) => if x26 then (Pz.bindM (Pz.bindM (Pz.bindM (Pz.bindM (pureM v_value) fun (x27 : PyData) => optM (asTup x27)) fun (x28 : (List PyData)) => pureM (x28.length : Int)) fun (x29 : Int) => (Pz.bindM (pureM (1 : Int)) fun (x30 : Int) => pureM (!decide (x29 = x30)))) fun (x31 : Bool) => if x31 then (Pz.bindM (Pz.bindM (pureM ("form" : Str)) fun (x32 : Str) => (Pz.bindM (pureM ()) fun (x33 : Unit) => pureM (x32, x33))) fun (x34 : (Str × Unit)) => pureM ((eP (eC eStr eU)) x34)) else (Pz.bindM (Pz.bindM (pureM v_pairs) fun (x36 : (Int × Int × (List Int) × Unit)) => (Pz.bindM (pureM v_sizes) fun (x37 : (List Int)) => m__law_told x36 x37)) fun (r35 : PyData) => (Pz.bindM (Pz.bindM (pureM r35) fun (x40 : PyData) => (Pz.bindM (Pz.bindM (pureM ("none" : Str)) fun (x38 : Str) => (Pz.bindM (pureM ()) fun (x39 : Unit) => pureM (x38, x39))) fun (x41 : (Str × Unit)) => optM ((eqZ (eD x40) ((eP (eC eStr eU)) x41)).map (!·)))) fun (x54 : Bool) => if x54 then (Pz.bindM (Pz.bindM (Pz.bindM (Pz.bindM (pureM ("there" : Str)) fun (x42 : Str) => (Pz.bindM (pureM ()) fun (x43 : Unit) => pureM (x42, x43))) fun (x49 : (Str × Unit)) => pureM ((fun p : (Str × Unit) => [eStr p.1]) x49)) fun (x50 : (List PyData)) => (Pz.bindM (Pz.bindM (Pz.bindM (pureM r35) fun (x44 : PyData) => optM (asTup x44)) fun (x46 : (List PyData)) => (Pz.bindM (Pz.bindM (pureM (1 : Int)) fun (x45 : Int) => pureM (some x45)) fun (x47 : (Option Int)) => (Pz.bindM (pureM (none : Option Int)) fun (x48 : (Option Int)) => pureM (cutL x46 x47 x48)))) fun (x51 : (List PyData)) => optM (catO x50 x51))) fun (x52 : (List PyData)) => pureM ((eT eD) x52)) else (Pz.bindM (pureM ()) fun (x53 : Unit) => pureM (eNon x53))))) else (Pz.bindM (Pz.bindM (Pz.bindM (Pz.bindM (Pz.bindM (pureM v_value) fun (x55 : PyData) => optM (asTup x55)) fun (x56 : (List PyData)) => pureM (x56.length : Int)) fun (x57 : Int) => (Pz.bindM (pureM (3 : Int)) fun (x58 : Int) => pureM (!decide (x57 = x58)))) fun (x80 : Bool) => if x80 then pureM true else (Pz.bindM (Pz.bindM (Pz.bindM (Pz.bindM (Pz.bindM (pureM v_value) fun (x59 : PyData) => optM (asTup x59)) fun (x60 : (List PyData)) => (Pz.bindM (pureM (1 : Int)) fun (x61 : Int) => optM (atI x60 x61))) fun (x62 : PyData) => pureM (isTy "int" (eD x62))) fun (x63 : Bool) => pureM (!x63)) fun (x79 : Bool) => if x79 then pureM true else (Pz.bindM (Pz.bindM (Pz.bindM (Pz.bindM (pureM v_value) fun (x64 : PyData) => optM (asTup x64)) fun (x65 : (List PyData)) => (Pz.bindM (pureM (1 : Int)) fun (x66 : Int) => optM (atI x65 x66))) fun (x67 : PyData) => pureM (isTy "bool" (eD x67))) fun (x78 : Bool) => if x78 then pureM true else (Pz.bindM (Pz.bindM (pureM (0 : Int)) fun (x73 : Int) => (Pz.bindM (Pz.bindM (Pz.bindM (Pz.bindM (pureM v_value) fun (x68 : PyData) => optM (asTup x68)) fun (x69 : (List PyData)) => (Pz.bindM (pureM (1 : Int)) fun (x70 : Int) => optM (atI x69 x70))) fun (x71 : PyData) => optM (asInt x71)) fun (x74 : Int) => (Pz.bindM (optM (some (decide (x73 ≤ x74)))) fun (x76 : Bool) => if x76 then (Pz.bindM (Pz.bindM (pureM v_pairs) fun (x72 : (Int × Int × (List Int) × Unit)) => pureM (x72.2.1)) fun (x75 : Int) => optM (some (decide (x74 < x75)))) else pureM false))) fun (x77 : Bool) => pureM (!x77))))) fun (x81 : Bool) => if x81 then (Pz.bindM (Pz.bindM (pureM ("form" : Str)) fun (x82 : Str) => (Pz.bindM (pureM ()) fun (x83 : Unit) => pureM (x82, x83))) fun (x84 : (Str × Unit)) => pureM ((eP (eC eStr eU)) x84)) else (Pz.bindM (Pz.bindM (Pz.bindM (Pz.bindM (pureM v_value) fun (x86 : PyData) => optM (asTup x86)) fun (x88 : (List PyData)) => (Pz.bindM (Pz.bindM (pureM (1 : Int)) fun (x87 : Int) => pureM (some x87)) fun (x89 : (Option Int)) => (Pz.bindM (pureM (none : Option Int)) fun (x90 : (Option Int)) => pureM (cutL x88 x89 x90)))) fun (x91 : (List PyData)) => optM (of2 x91)) fun (r85 : (PyData × PyData × Unit)) => (Pz.bindM (Pz.bindM (Pz.bindM (Pz.bindM (pureM r85.2.1) fun (x92 : PyData) => pureM (isTy "tuple" (eD x92))) fun (x93 : Bool) => pureM (!x93)) fun (x105 : Bool) => if x105 then pureM true else (Pz.bindM (Pz.bindM (Pz.bindM (pureM r85.2.1) fun (x94 : PyData) => optM (asTup x94)) fun (x100 : (List PyData)) => compM (fun (y95 : PyData) => (Pz.bindM (Pz.bindM (Pz.bindM (pureM y95) fun (x96 : PyData) => pureM (isTy "int" (eD x96))) fun (x97 : Bool) => pureM (!x97)) fun (x99 : Bool) => if x99 then pureM true else (Pz.bindM (pureM y95) fun (x98 : PyData) => pureM (isTy "bool" (eD x98))))) (fun (y95 : PyData) => (pureM y95)) x100) fun (x103 : (List PyData)) => (Pz.bindM (smallM (pureM ([] : List PyData))) fun (x104 : (List PyData)) => optM ((eqZ ((eL eD) x103) ((eL eD) x104)).map (!·))))) fun (x106 : Bool) => if x106 then (Pz.bindM (Pz.bindM (pureM ("form" : Str)) fun (x107 : Str) => (Pz.bindM (pureM ()) fun (x108 : Unit) => pureM (x107, x108))) fun (x109 : (Str × Unit)) => pureM ((eP (eC eStr eU)) x109)) else (Pz.bindM (Pz.bindM (Pz.bindM (Pz.bindM (Pz.bindM (pureM r85.2.1) fun (x110 : PyData) => optM (asTup x110)) fun (x119 : (List PyData)) => compM (fun (y111 : PyData) => (Pz.bindM (Pz.bindM (pureM (0 : Int)) fun (x114 : Int) => (Pz.bindM (Pz.bindM (pureM y111) fun (x112 : PyData) => optM (asInt x112)) fun (x115 : Int) => (Pz.bindM (optM (some (decide (x114 ≤ x115)))) fun (x117 : Bool) => if x117 then (Pz.bindM (Pz.bindM (pureM v_pairs) fun (x113 : (Int × Int × (List Int) × Unit)) => pureM (x113.1)) fun (x116 : Int) => optM (some (decide (x115 < x116)))) else pureM false))) fun (x118 : Bool) => pureM (!x118))) (fun (y111 : PyData) => (pureM y111)) x119) fun (x122 : (List PyData)) => (Pz.bindM (smallM (pureM ([] : List PyData))) fun (x123 : (List PyData)) => optM ((eqZ ((eL eD) x122) ((eL eD) x123)).map (!·)))) fun (x144 : Bool) => if x144 then pureM true else (Pz.bindM (Pz.bindM (Pz.bindM (pureM (1 : Int)) fun (x126 : Int) => (Pz.bindM (Pz.bindM (Pz.bindM (pureM r85.2.1) fun (x124 : PyData) => optM (asTup x124)) fun (x125 : (List PyData)) => pureM (x125.length : Int)) fun (x127 : Int) => rangeM x126 x127)) fun (x141 : (List Int)) => compM (fun (y128 : Int) => (Pz.bindM (Pz.bindM (Pz.bindM (Pz.bindM (pureM r85.2.1) fun (x129 : PyData) => optM (asTup x129)) fun (x130 : (List PyData)) => (Pz.bindM (pureM y128) fun (x131 : Int) => optM (atI x130 x131))) fun (x132 : PyData) => optM (asInt x132)) fun (x139 : Int) => (Pz.bindM (Pz.bindM (Pz.bindM (Pz.bindM (pureM r85.2.1) fun (x133 : PyData) => optM (asTup x133)) fun (x136 : (List PyData)) => (Pz.bindM (Pz.bindM (pureM y128) fun (x134 : Int) => (Pz.bindM (pureM (1 : Int)) fun (x135 : Int) => pureM (x134 - x135))) fun (x137 : Int) => optM (atI x136 x137))) fun (x138 : PyData) => optM (asInt x138)) fun (x140 : Int) => pureM (decide (x139 ≤ x140))))) (fun (y128 : Int) => (pureM y128)) x141) fun (x142 : (List Int)) => (Pz.bindM (smallM (pureM ([] : List Int))) fun (x143 : (List Int)) => pureM (!decide (x142 = x143))))) fun (x145 : Bool) => if x145 then (Pz.bindM (Pz.bindM (pureM ("form" : Str)) fun (x146 : Str) => (Pz.bindM (pureM ()) fun (x147 : Unit) => pureM (x146, x147))) fun (x148 : (Str × Unit)) => pureM ((eP (eC eStr eU)) x148)) else (Pz.bindM (Pz.bindM (Pz.bindM (Pz.bindM (pureM r85.2.1) fun (x149 : PyData) => optM (asTup x149)) fun (x150 : (List PyData)) => pureM (x150.length : Int)) fun (x154 : Int) => (Pz.bindM (Pz.bindM (pureM v_sizes) fun (x152 : (List Int)) => (Pz.bindM (Pz.bindM (pureM r85.1) fun (x151 : PyData) => optM (asInt x151)) fun (x153 : Int) => optM (atI x152 x153))) fun (x155 : Int) => pureM (!decide (x154 = x155)))) fun (x156 : Bool) => if x156 then (Pz.bindM (Pz.bindM (pureM ("size" : Str)) fun (x161 : Str) => (Pz.bindM (Pz.bindM (Pz.bindM (Pz.bindM (pureM r85.2.1) fun (x157 : PyData) => optM (asTup x157)) fun (x158 : (List PyData)) => pureM (x158.length : Int)) fun (x159 : Int) => (Pz.bindM (pureM ()) fun (x160 : Unit) => pureM (x159, x160))) fun (x162 : (Int × Unit)) => pureM (x161, x162))) fun (x163 : (Str × Int × Unit)) => pureM ((eP (eC eStr (eC eInt eU))) x163)) else (Pz.bindM (Pz.bindM (Pz.bindM (Pz.bindM (pureM r85.2.1) fun (x164 : PyData) => optM (asTup x164)) fun (x165 : (List PyData)) => pureM (enumL x165)) fun (x198 : (List (Int × PyData × Unit))) => forO (fun (b167 : Unit) (y166 : (Int × PyData × Unit)) => (Pz.bindM (Pz.bindM (Pz.bindM (Pz.bindM (pureM r85.2.1) fun (x169 : PyData) => optM (asTup x169)) fun (x171 : (List PyData)) => (Pz.bindM (pureM (none : Option Int)) fun (x172 : (Option Int)) => (Pz.bindM (Pz.bindM (pureM y166.1) fun (x170 : Int) => pureM (some x170)) fun (x173 : (Option Int)) => pureM (cutL x171 x172 x173)))) fun (x182 : (List PyData)) => compM (fun (y174 : PyData) => (Pz.bindM (Pz.bindM (pureM v_pairs) fun (x177 : (Int × Int × (List Int) × Unit)) => (Pz.bindM (Pz.bindM (pureM y174) fun (x175 : PyData) => optM (asInt x175)) fun (x178 : Int) => (Pz.bindM (Pz.bindM (pureM y166.2.1) fun (x176 : PyData) => optM (asInt x176)) fun (x179 : Int) => m__law_color x177 x178 x179))) fun (x180 : Int) => (Pz.bindM (pureM r85.1) fun (x181 : PyData) => optM ((eqZ (eInt x180) (eD x181)).map (!·))))) (fun (y174 : PyData) => (pureM y174)) x182) fun (r168 : (List PyData)) => (Pz.bindM (Pz.bindM (pureM r168) fun (x185 : (List PyData)) => (Pz.bindM (smallM (pureM ([] : List PyData))) fun (x186 : (List PyData)) => optM ((eqZ ((eL eD) x185) ((eL eD) x186)).map (!·)))) fun (x187 : Bool) => if x187 then Pz.bindM (Pz.bindM (Pz.bindM (pureM ("pair" : Str)) fun (x194 : Str) => (Pz.bindM (Pz.bindM (Pz.bindM (pureM r168) fun (x188 : (List PyData)) => (Pz.bindM (pureM (0 : Int)) fun (x189 : Int) => optM (atI x188 x189))) fun (x192 : PyData) => (Pz.bindM (Pz.bindM (pureM y166.2.1) fun (x190 : PyData) => (Pz.bindM (pureM ()) fun (x191 : Unit) => pureM (x190, x191))) fun (x193 : (PyData × Unit)) => pureM (x192, x193))) fun (x195 : (PyData × (PyData × Unit))) => pureM (x194, x195))) fun (x196 : (Str × PyData × PyData × Unit)) => pureM ((eP (eC eStr (eC eD (eC eD eU)))) x196)) (fun (x197 : PyData) => pureM (Out.rt x197)) else (pureM (Out.nx ()))))) x198 ()) fun o => caseO o (fun (r199 : Unit) => (Pz.bindM (pureM ()) fun (x200 : Unit) => pureM (eNon x200))) pureM))))))))
theorem ok__law_fault {f : Addr} {fd : FuncData} (F : Fun K "_law_fault" "_law_fault" s__law_fault f fd) (B : Bl mg)
    {f__law_told : Addr} {d__law_told : FuncData} (C__law_told : Cal K mg "_law_told" f__law_told d__law_told ["pairs", "sizes"]) (F__law_told : FnG P w K mg base 3 f__law_told d__law_told ["pairs", "sizes"] (SpM (fun p : (Int × Int × (List Int) × Unit) × (List Int) × Unit => [.fz ((eP (eC eInt (eC eInt (eC (eT eInt) eU)))) p.1), .fz ((eT eInt) p.2.1)]) eD (fun p : (Int × Int × (List Int) × Unit) × (List Int) × Unit => m__law_told p.1 p.2.1)))
    {f__law_color : Addr} {d__law_color : FuncData} (C__law_color : Cal K mg "_law_color" f__law_color d__law_color ["pairs", "a", "b"]) (F__law_color : FnG P w K mg base 1 f__law_color d__law_color ["pairs", "a", "b"] (SpM (fun p : (Int × Int × (List Int) × Unit) × Int × Int × Unit => [.fz ((eP (eC eInt (eC eInt (eC (eT eInt) eU)))) p.1), .fz (eInt p.2.1), .fz (eInt p.2.2.1)]) eInt (fun p : (Int × Int × (List Int) × Unit) × Int × Int × Unit => m__law_color p.1 p.2.1 p.2.2.1))) :
    FnG P w K mg base 4 f fd ["pairs", "sizes", "value"] (SpM (fun p : (Int × Int × (List Int) × Unit) × (List Int) × PyData × Unit => [.fz ((eP (eC eInt (eC eInt (eC (eT eInt) eU)))) p.1), .fz ((eT eInt) p.2.1), .fz (eD p.2.2.1)]) eD (fun p : (Int × Int × (List Int) × Unit) × (List Int) × PyData × Unit => m__law_fault p.1 p.2.1 p.2.2.1)) := by
  refine g_ok F sc__law_fault (fun p : (Int × Int × (List Int) × Unit) × (List Int) × PyData × Unit => [.fz ((eP (eC eInt (eC eInt (eC (eT eInt) eU)))) p.1), .fz ((eT eInt) p.2.1), .fz (eD p.2.2.1)]) eD (fun p : (Int × Int × (List Int) × Unit) × (List Int) × PyData × Unit => m__law_fault p.1 p.2.1 p.2.2.1) (fun p => [.fz ((eP (eC eInt (eC eInt (eC (eT eInt) eU)))) p.1), .fz ((eT eInt) p.2.1), .fz (eD p.2.2.1), .un, .un, .un, .un, .un, .un, .un]) (fun _ => rfl) (fun _ => rfl) ?_
  intro cdv A above s H E R p hG hr
  obtain ⟨v_pairs, v_sizes, v_value, uu⟩ := p
  have sc := sc__law_fault
  exact (s_ifret1 (w_t (w_or (t_not (t_val (e_isi (ea := eD) (fun K d => kit_tuple d) B.b_isinstance B.b_tuple bt_tuple (e_var 2 eD v_value)))) (w_or1 (t_ninT (n := 0) hr Dc.str (e_repr (ea := (eT eD)) hr hG B.b_repr bt_repr (e_slT (e_dTup (e_var 2 eD v_value)) p_none (p_some e_int))) (e_enc (eb := (eT eStr)) (fun p : (Str × Str × Unit) => [p.1, p.2.1]) (e_tup (eC eStr (eC eStr eU)) (a_cons e_str (a_cons e_str a_nil)) (hl := fun _ => (by decide : 2 ≤ sizeLine))) (fun _ => rfl)))))) (s_ret0 (e_enc (eb := eD) (fun x => (eP (eC eStr eU)) x) (e_tup (eC eStr eU) (a_cons e_str a_nil) (hl := fun _ => (by decide : 1 ≤ sizeLine))) (fun _ => rfl))) (s_ifret1 (t_eqZ hr (e_ixT (e_dTup (e_var 2 eD v_value)) e_int) e_str) (s_ifret1 (t_neI (e_lenT B.b_len bt_len (e_dTup (e_var 2 eD v_value))) e_int) (s_ret0 (e_enc (eb := eD) (fun x => (eP (eC eStr eU)) x) (e_tup (eC eStr eU) (a_cons e_str a_nil) (hl := fun _ => (by decide : 1 ≤ sizeLine))) (fun _ => rfl))) (s_step (Γ1 := fun (r35 : PyData) => [.fz ((eP (eC eInt (eC eInt (eC (eT eInt) eU)))) v_pairs), .fz ((eT eInt) v_sizes), .fz (eD v_value), .fz (eD r35), .un, .un, .un, .un, .un, .un]) (q_set 3 (e_c2 (F__law_told.mono (by decide)) hG hr C__law_told.mg C__law_told.kp C__law_told.bd (e_var 0 (eP (eC eInt (eC eInt (eC (eT eInt) eU)))) v_pairs) (e_var 1 (eT eInt) v_sizes)) sc.nd) (fun (r35 : PyData) => (s_ret0 (e_if (t_neZ hr (e_var 3 eD r35) (e_tup (eC eStr eU) (a_cons e_str a_nil) (hl := fun _ => (by decide : 1 ≤ sizeLine)))) (e_enc (eb := eD) (fun x => (eT eD) x) (e_catT (e_enc (eb := (eT eD)) (fun p : (Str × Unit) => [eStr p.1]) (e_tup (eC eStr eU) (a_cons e_str a_nil) (hl := fun _ => (by decide : 1 ≤ sizeLine))) (fun _ => rfl)) (e_slT (e_dTup (e_var 3 eD r35)) (p_some e_int) p_none)) (fun _ => rfl)) (e_enc (eb := eD) (fun x => eNon x) e_non (fun _ => rfl))))))) (s_ifret1 (w_t (w_or (t_neI (e_lenT B.b_len bt_len (e_dTup (e_var 2 eD v_value))) e_int) (w_or (t_not (t_val (e_isi (ea := eD) (fun K d => kit_int d) B.b_isinstance B.b_int bt_int (e_ixT (e_dTup (e_var 2 eD v_value)) e_int)))) (w_or (t_val (e_isi (ea := eD) (fun K d => kit_bool d) B.b_isinstance B.b_bool bt_bool (e_ixT (e_dTup (e_var 2 eD v_value)) e_int))) (w_or1 (t_not (t_chain (f := (fun x y => some (decide (x ≤ y)))) (g := (fun x y => some (decide (x < y)))) op_le op_lt v_cmp2 v_cmp2 e_int (e_dInt (e_ixT (e_dTup (e_var 2 eD v_value)) e_int)) (e_ixP (ec := eInt) (f := (eC eInt (eC eInt (eC (eT eInt) eU)))) (fun p => p.2.1) 1 (ha := (e_var 0 (eP (eC eInt (eC eInt (eC (eT eInt) eU)))) v_pairs)))))))))) (s_ret0 (e_enc (eb := eD) (fun x => (eP (eC eStr eU)) x) (e_tup (eC eStr eU) (a_cons e_str a_nil) (hl := fun _ => (by decide : 1 ≤ sizeLine))) (fun _ => rfl))) (s_step (Γ1 := fun (r85 : (PyData × PyData × Unit)) => [.fz ((eP (eC eInt (eC eInt (eC (eT eInt) eU)))) v_pairs), .fz ((eT eInt) v_sizes), .fz (eD v_value), .un, .fz (eD r85.1), .fz (eD r85.2.1), .un, .un, .un, .un]) (q_asg (set := (st2 4 eD 5 eD)) (e_of2 (e_slT (e_dTup (e_var 2 eD v_value)) (p_some e_int) p_none)) (g2 4 5 eD eD rfl sc.nd) noow2) (fun (r85 : (PyData × PyData × Unit)) => (s_ifret1 (w_t (w_or (t_not (t_val (e_isi (ea := eD) (fun K d => kit_tuple d) B.b_isinstance B.b_tuple bt_tuple (e_var 5 eD r85.2.1)))) (w_or1 (t_neZ hr (f_e (f_lc (set := (st1 9 eD)) (is := [9]) [("a", 9)] (fun (y95 : PyData) => (Pz.bindM (Pz.bindM (Pz.bindM (pureM y95) fun (x96 : PyData) => pureM (isTy "int" (eD x96))) fun (x97 : Bool) => pureM (!x97)) fun (x99 : Bool) => if x99 then pureM true else (Pz.bindM (pureM y95) fun (x98 : PyData) => pureM (isTy "bool" (eD x98))))) (fun (y95 : PyData) => (pureM y95)) rfl sc.nd (i_tup (e_dTup (e_var 5 eD r85.2.1))) (blkOk_by (N := N__law_fault) (sc := (defScope s__law_fault)) (by decide +kernel)) (fun _ _ _ _ _ => (g1 9 eD sc.nd)) (fun _ _ _ _ _ (y95 : PyData) => (c_one (w_t (w_or (t_not (t_val (e_isi (ea := eD) (fun K d => kit_int d) B.b_isinstance B.b_int bt_int (e_var 9 eD y95)))) (w_or1 (t_val (e_isi (ea := eD) (fun K d => kit_bool d) B.b_isinstance B.b_bool bt_bool (e_var 9 eD y95)))))))) (fun _ _ _ _ _ (y95 : PyData) => (e_var 9 eD y95)) noow1 sm1 (fun _ h => h) (noOw rfl))) (f_e (f_list l_nil)))))) (s_ret0 (e_enc (eb := eD) (fun x => (eP (eC eStr eU)) x) (e_tup (eC eStr eU) (a_cons e_str a_nil) (hl := fun _ => (by decide : 1 ≤ sizeLine))) (fun _ => rfl))) (s_ifret1 (w_t (w_or (t_neZ hr (f_e (f_lc (set := (st1 9 eD)) (is := [9]) [("a", 9)] (fun (y111 : PyData) => (Pz.bindM (Pz.bindM (pureM (0 : Int)) fun (x114 : Int) => (Pz.bindM (Pz.bindM (pureM y111) fun (x112 : PyData) => optM (asInt x112)) fun (x115 : Int) => (Pz.bindM (optM (some (decide (x114 ≤ x115)))) fun (x117 : Bool) => if x117 then (Pz.bindM (Pz.bindM (pureM v_pairs) fun (x113 : (Int × Int × (List Int) × Unit)) => pureM (x113.1)) fun (x116 : Int) => optM (some (decide (x115 < x116)))) else pureM false))) fun (x118 : Bool) => pureM (!x118))) (fun (y111 : PyData) => (pureM y111)) rfl sc.nd (i_tup (e_dTup (e_var 5 eD r85.2.1))) (blkOk_by (N := N__law_fault) (sc := (defScope s__law_fault)) (by decide +kernel)) (fun _ _ _ _ _ => (g1 9 eD sc.nd)) (fun _ _ _ _ _ (y111 : PyData) => (c_one (t_not (t_chain (f := (fun x y => some (decide (x ≤ y)))) (g := (fun x y => some (decide (x < y)))) op_le op_lt v_cmp2 v_cmp2 e_int (e_dInt (e_var 9 eD y111)) (e_ixP (ec := eInt) (f := (eC eInt (eC eInt (eC (eT eInt) eU)))) (fun p => p.1) 0 (ha := (e_var 0 (eP (eC eInt (eC eInt (eC (eT eInt) eU)))) v_pairs))))))) (fun _ _ _ _ _ (y111 : PyData) => (e_var 9 eD y111)) noow1 sm1 (fun _ h => h) (noOw rfl))) (f_e (f_list l_nil))) (w_or1 (t_neP (n := 1) hr (Dc.lst Dc.int) (f_e (f_lc (set := (st1 6 eInt)) (is := [6]) [("k", 6)] (fun (y128 : Int) => (Pz.bindM (Pz.bindM (Pz.bindM (Pz.bindM (pureM r85.2.1) fun (x129 : PyData) => optM (asTup x129)) fun (x130 : (List PyData)) => (Pz.bindM (pureM y128) fun (x131 : Int) => optM (atI x130 x131))) fun (x132 : PyData) => optM (asInt x132)) fun (x139 : Int) => (Pz.bindM (Pz.bindM (Pz.bindM (Pz.bindM (pureM r85.2.1) fun (x133 : PyData) => optM (asTup x133)) fun (x136 : (List PyData)) => (Pz.bindM (Pz.bindM (pureM y128) fun (x134 : Int) => (Pz.bindM (pureM (1 : Int)) fun (x135 : Int) => pureM (x134 - x135))) fun (x137 : Int) => optM (atI x136 x137))) fun (x138 : PyData) => optM (asInt x138)) fun (x140 : Int) => pureM (decide (x139 ≤ x140))))) (fun (y128 : Int) => (pureM y128)) rfl sc.nd (i_range2 B.b_range e_int (e_lenT B.b_len bt_len (e_dTup (e_var 5 eD r85.2.1)))) (blkOk_by (N := N__law_fault) (sc := (defScope s__law_fault)) (by decide +kernel)) (fun _ _ _ _ _ => (g1 6 eInt sc.nd)) (fun _ _ _ _ _ (y128 : Int) => (c_one (t_le (e_dInt (e_ixT (e_dTup (e_var 5 eD r85.2.1)) (e_var 6 eInt y128))) (e_dInt (e_ixT (e_dTup (e_var 5 eD r85.2.1)) (e_sub (e_var 6 eInt y128) e_int)))))) (fun _ _ _ _ _ (y128 : Int) => (e_var 6 eInt y128)) noow1 sm1 (fun _ h => h) (noOw rfl))) (f_e (f_list l_nil)))))) (s_ret0 (e_enc (eb := eD) (fun x => (eP (eC eStr eU)) x) (e_tup (eC eStr eU) (a_cons e_str a_nil) (hl := fun _ => (by decide : 1 ≤ sizeLine))) (fun _ => rfl))) (s_ifret1 (t_neI (e_lenT B.b_len bt_len (e_dTup (e_var 5 eD r85.2.1))) (e_ixT (e_var 1 (eT eInt) v_sizes) (e_dInt (e_var 4 eD r85.1)))) (s_ret0 (e_enc (eb := eD) (fun x => (eP (eC eStr (eC eInt eU))) x) (e_tup (eC eStr (eC eInt eU)) (a_cons e_str (a_cons (e_lenT B.b_len bt_len (e_dTup (e_var 5 eD r85.2.1))) a_nil)) (hl := fun _ => (by decide : 2 ≤ sizeLine))) (fun _ => rfl))) (s_step1 (er := eD) (Γ1 := (fun (b : Unit) => [.fz ((eP (eC eInt (eC eInt (eC (eT eInt) eU)))) v_pairs), .fz ((eT eInt) v_sizes), .fz (eD v_value), .un, .fz (eD r85.1), .fz (eD r85.2.1), .un, .un, .un, .un])) (q_forO (er := eD) (set := (st2 6 eInt 7 eD)) (is := [6, 7]) (fun (b : Unit) => [.fz ((eP (eC eInt (eC eInt (eC (eT eInt) eU)))) v_pairs), .fz ((eT eInt) v_sizes), .fz (eD v_value), .un, .fz (eD r85.1), .fz (eD r85.2.1), .un, .un, .un, .un]) () (fun (b167 : Unit) (y166 : (Int × PyData × Unit)) => (Pz.bindM (Pz.bindM (Pz.bindM (Pz.bindM (pureM r85.2.1) fun (x169 : PyData) => optM (asTup x169)) fun (x171 : (List PyData)) => (Pz.bindM (pureM (none : Option Int)) fun (x172 : (Option Int)) => (Pz.bindM (Pz.bindM (pureM y166.1) fun (x170 : Int) => pureM (some x170)) fun (x173 : (Option Int)) => pureM (cutL x171 x172 x173)))) fun (x182 : (List PyData)) => compM (fun (y174 : PyData) => (Pz.bindM (Pz.bindM (pureM v_pairs) fun (x177 : (Int × Int × (List Int) × Unit)) => (Pz.bindM (Pz.bindM (pureM y174) fun (x175 : PyData) => optM (asInt x175)) fun (x178 : Int) => (Pz.bindM (Pz.bindM (pureM y166.2.1) fun (x176 : PyData) => optM (asInt x176)) fun (x179 : Int) => m__law_color x177 x178 x179))) fun (x180 : Int) => (Pz.bindM (pureM r85.1) fun (x181 : PyData) => optM ((eqZ (eInt x180) (eD x181)).map (!·))))) (fun (y174 : PyData) => (pureM y174)) x182) fun (r168 : (List PyData)) => (Pz.bindM (Pz.bindM (pureM r168) fun (x185 : (List PyData)) => (Pz.bindM (smallM (pureM ([] : List PyData))) fun (x186 : (List PyData)) => optM ((eqZ ((eL eD) x185) ((eL eD) x186)).map (!·)))) fun (x187 : Bool) => if x187 then Pz.bindM (Pz.bindM (Pz.bindM (pureM ("pair" : Str)) fun (x194 : Str) => (Pz.bindM (Pz.bindM (Pz.bindM (pureM r168) fun (x188 : (List PyData)) => (Pz.bindM (pureM (0 : Int)) fun (x189 : Int) => optM (atI x188 x189))) fun (x192 : PyData) => (Pz.bindM (Pz.bindM (pureM y166.2.1) fun (x190 : PyData) => (Pz.bindM (pureM ()) fun (x191 : Unit) => pureM (x190, x191))) fun (x193 : (PyData × Unit)) => pureM (x192, x193))) fun (x195 : (PyData × (PyData × Unit))) => pureM (x194, x195))) fun (x196 : (Str × PyData × PyData × Unit)) => pureM ((eP (eC eStr (eC eD (eC eD eU)))) x196)) (fun (x197 : PyData) => pureM (Out.rt x197)) else (pureM (Out.nx ()))))) PassesOwn.never rfl (i_enumT B.b_enumerate (e_dTup (e_var 5 eD r85.2.1))) (g2 6 7 eInt eD rfl sc.nd) noow2 (.eq (.eq (.eq (.un (.eq (.eq (.un (.un (.un (.un .nil)))))))))) (fun (b167 : Unit) (y166 : (Int × PyData × Unit)) => (s_step (Γ1 := fun (r168 : (List PyData)) => [.fz ((eP (eC eInt (eC eInt (eC (eT eInt) eU)))) v_pairs), .fz ((eT eInt) v_sizes), .fz (eD v_value), .un, .fz (eD r85.1), .fz (eD r85.2.1), .fz (eInt y166.1), .fz (eD y166.2.1), .fz ((eL eD) r168), .un]) (q_setLcE 8 (set := (st1 9 eD)) (is := [9]) [("a", 9)] (fun (y174 : PyData) => (Pz.bindM (Pz.bindM (pureM v_pairs) fun (x177 : (Int × Int × (List Int) × Unit)) => (Pz.bindM (Pz.bindM (pureM y174) fun (x175 : PyData) => optM (asInt x175)) fun (x178 : Int) => (Pz.bindM (Pz.bindM (pureM y166.2.1) fun (x176 : PyData) => optM (asInt x176)) fun (x179 : Int) => m__law_color x177 x178 x179))) fun (x180 : Int) => (Pz.bindM (pureM r85.1) fun (x181 : PyData) => optM ((eqZ (eInt x180) (eD x181)).map (!·))))) (fun (y174 : PyData) => (pureM y174)) rfl sc.nd (sw_true rfl rfl rfl (by decide +kernel)) (i_tup (e_slT (e_dTup (e_var 5 eD r85.2.1)) p_none (p_some (e_var 6 eInt y166.1)))) (blkOk_by (N := N__law_fault) (sc := (defScope s__law_fault)) (by decide +kernel)) (fun _ _ _ _ _ => (g1 9 eD sc.nd)) (fun _ _ _ _ _ (y174 : PyData) => (c_one (t_neZ hr (e_c3 (F__law_color.mono (by decide)) hG hr C__law_color.mg C__law_color.kp C__law_color.bd (e_var 0 (eP (eC eInt (eC eInt (eC (eT eInt) eU)))) v_pairs) (e_dInt (e_var 9 eD y174)) (e_dInt (e_var 7 eD y166.2.1))) (e_var 4 eD r85.1)))) (fun _ _ _ _ _ (y174 : PyData) => (e_var 9 eD y174)) noow1 sm1 (fun _ h => h) (noOw rfl)) (fun (r168 : (List PyData)) => (s_ifret2 (Γb := (fun (b : Unit) => [.fz ((eP (eC eInt (eC eInt (eC (eT eInt) eU)))) v_pairs), .fz ((eT eInt) v_sizes), .fz (eD v_value), .un, .fz (eD r85.1), .fz (eD r85.2.1), .un, .un, .un, .un])) (t_neZ hr (e_var 8 (eL eD) r168) (f_e (f_list l_nil))) (s_ret0 (e_enc (eb := eD) (fun x => (eP (eC eStr (eC eD (eC eD eU)))) x) (e_tup (eC eStr (eC eD (eC eD eU))) (a_cons e_str (a_cons (e_ixL (e_var 8 (eL eD) r168) e_int) (a_cons (e_var 7 eD y166.2.1) a_nil))) (hl := fun _ => (by decide : 3 ≤ sizeLine))) (fun _ => rfl))) (s_nilO (Γb := (fun (b : Unit) => [.fz ((eP (eC eInt (eC eInt (eC (eT eInt) eU)))) v_pairs), .fz ((eT eInt) v_sizes), .fz (eD v_value), .un, .fz (eD r85.1), .fz (eD r85.2.1), .un, .un, .un, .un])) () (.eq (.eq (.eq (.un (.eq (.eq (.un (.un (.un (.un .nil)))))))))))))))) (fun (r199 : Unit) => (s_ret0 (e_enc (eb := eD) (fun x => eNon x) e_non (fun _ => rfl)))))))))))))

abbrev s_law : Stmt := topS 22
def N_law : List Str := ["script", "source", "odd", "lap", "n", "c", "pairs", "sizes", "kept", "told", "i", "thing", "some", "lot", "values", "value", "shown", "fault"]
theorem sc_law : FnScope N_law ["script"] (defScope s_law) := ⟨rfl, rfl, rfl, by decide +kernel, rfl, by decide +kernel, by decide +kernel⟩
def m_law : M Bool := (Pz.bindM (smallM (Pz.bindM (Pz.bindM (pureM ()) fun (x55 : Unit) => pureM (eNon x55)) fun (x56 : PyData) => (Pz.bindM (Pz.bindM (Pz.bindM (pureM true) fun (x52 : Bool) => pureM (eBool x52)) fun (x53 : PyData) => (Pz.bindM (Pz.bindM (Pz.bindM (pureM (0 : Int)) fun (x49 : Int) => pureM (eInt x49)) fun (x50 : PyData) => (Pz.bindM (Pz.bindM (Pz.bindM (pureM (1 : Int)) fun (x46 : Int) => pureM (eInt x46)) fun (x47 : PyData) => (Pz.bindM (Pz.bindM (Pz.bindM (pureM (9 : Int)) fun (x43 : Int) => pureM (eInt x43)) fun (x44 : PyData) => (Pz.bindM (Pz.bindM (Pz.bindM (Pz.bindM (pureM (1 : Int)) fun (x39 : Int) => pureM (-x39)) fun (x40 : Int) => pureM (eInt x40)) fun (x41 : PyData) => (Pz.bindM (Pz.bindM (Pz.bindM (pureM ("lot" : Str)) fun (x36 : Str) => pureM (eStr x36)) fun (x37 : PyData) => (Pz.bindM (Pz.bindM (Pz.bindM (pureM ("none" : Str)) fun (x33 : Str) => pureM (eStr x33)) fun (x34 : PyData) => (Pz.bindM (Pz.bindM (Pz.bindM (pureM ()) fun (x30 : (Unit)) => pureM ((eP eU) x30)) fun (x31 : PyData) => (Pz.bindM (Pz.bindM (Pz.bindM (Pz.bindM (pureM (0 : Int)) fun (x25 : Int) => (Pz.bindM (pureM ()) fun (x26 : Unit) => pureM (x25, x26))) fun (x27 : (Int × Unit)) => pureM ((eP (eC eInt eU)) x27)) fun (x28 : PyData) => (Pz.bindM (Pz.bindM (Pz.bindM (Pz.bindM (pureM (1 : Int)) fun (x20 : Int) => (Pz.bindM (Pz.bindM (pureM (0 : Int)) fun (x18 : Int) => (Pz.bindM (pureM ()) fun (x19 : Unit) => pureM (x18, x19))) fun (x21 : (Int × Unit)) => pureM (x20, x21))) fun (x22 : (Int × Int × Unit)) => pureM ((eP (eC eInt (eC eInt eU))) x22)) fun (x23 : PyData) => (Pz.bindM (Pz.bindM (Pz.bindM (Pz.bindM (pureM (0 : Int)) fun (x13 : Int) => (Pz.bindM (Pz.bindM (pureM (9 : Int)) fun (x11 : Int) => (Pz.bindM (pureM ()) fun (x12 : Unit) => pureM (x11, x12))) fun (x14 : (Int × Unit)) => pureM (x13, x14))) fun (x15 : (Int × Int × Unit)) => pureM ((eP (eC eInt (eC eInt eU))) x15)) fun (x16 : PyData) => (Pz.bindM (Pz.bindM (Pz.bindM (smallM (Pz.bindM (pureM (0 : Int)) fun (x6 : Int) => (Pz.bindM (Pz.bindM (pureM (1 : Int)) fun (x4 : Int) => (Pz.bindM (pureM ([] : List Int)) fun (x5 : (List Int)) => pureM (x4 :: x5))) fun (x7 : (List Int)) => pureM (x6 :: x7)))) fun (x8 : (List Int)) => pureM ((eL eInt) x8)) fun (x9 : PyData) => (Pz.bindM (Pz.bindM (pureM (PyData.dict [])) fun (x2 : PyData) => (Pz.bindM (pureM ([] : List PyData)) fun (x3 : (List PyData)) => pureM (x2 :: x3))) fun (x10 : (List PyData)) => pureM (x9 :: x10))) fun (x17 : (List PyData)) => pureM (x16 :: x17))) fun (x24 : (List PyData)) => pureM (x23 :: x24))) fun (x29 : (List PyData)) => pureM (x28 :: x29))) fun (x32 : (List PyData)) => pureM (x31 :: x32))) fun (x35 : (List PyData)) => pureM (x34 :: x35))) fun (x38 : (List PyData)) => pureM (x37 :: x38))) fun (x42 : (List PyData)) => pureM (x41 :: x42))) fun (x45 : (List PyData)) => pureM (x44 :: x45))) fun (x48 : (List PyData)) => pureM (x47 :: x48))) fun (x51 : (List PyData)) => pureM (x50 :: x51))) fun (x54 : (List PyData)) => pureM (x53 :: x54))) fun (x57 : (List PyData)) => pureM (x56 :: x57)))) fun (r1 : (List PyData)) => (Pz.bindM (Pz.bindM (Pz.bindM (pureM (5 : Int)) fun (x58 : Int) => rangeM 0 x58) fun (x355 : (List Int)) => forO (fun (b60 : Unit) (y59 : Int) => (Pz.bindM (Pz.bindM (Pz.bindM (pureM (9 : Int)) fun (x62 : Int) => m__law_pick x62) fun (x66 : Int) => (Pz.bindM (Pz.bindM (pureM (1 : Int)) fun (x64 : Int) => (Pz.bindM (Pz.bindM (pureM (3 : Int)) fun (x63 : Int) => m__law_pick x63) fun (x65 : Int) => pureM (x64 + x65))) fun (x67 : Int) => pureM (x66, x67))) fun (r61 : (Int × Int)) => (Pz.bindM (Pz.bindM (pureM r61.1) fun (x69 : Int) => (Pz.bindM (pureM r61.2) fun (x70 : Int) => m__law_pairs x69 x70)) fun (r68 : (Int × Int × (List Int) × Unit)) => (Pz.bindM (Pz.bindM (Pz.bindM (Pz.bindM (pureM r61.2) fun (x72 : Int) => rangeM 0 x72) fun (x93 : (List Int)) => compM (fun (y73 : Int) => (pureM true)) (fun (y73 : Int) => (Pz.bindM (pureM (1 : Int)) fun (x91 : Int) => (Pz.bindM (Pz.bindM (smallM (Pz.bindM (pureM (0 : Int)) fun (x88 : Int) => (Pz.bindM (Pz.bindM (pureM (1 : Int)) fun (x86 : Int) => (Pz.bindM (Pz.bindM (pureM (2 : Int)) fun (x84 : Int) => (Pz.bindM (Pz.bindM (pureM (2 : Int)) fun (x82 : Int) => (Pz.bindM (Pz.bindM (pureM (2 : Int)) fun (x80 : Int) => (Pz.bindM (Pz.bindM (pureM (3 : Int)) fun (x78 : Int) => (Pz.bindM (Pz.bindM (pureM (3 : Int)) fun (x76 : Int) => (Pz.bindM (Pz.bindM (pureM (4 : Int)) fun (x74 : Int) => (Pz.bindM (pureM ([] : List Int)) fun (x75 : (List Int)) => pureM (x74 :: x75))) fun (x77 : (List Int)) => pureM (x76 :: x77))) fun (x79 : (List Int)) => pureM (x78 :: x79))) fun (x81 : (List Int)) => pureM (x80 :: x81))) fun (x83 : (List Int)) => pureM (x82 :: x83))) fun (x85 : (List Int)) => pureM (x84 :: x85))) fun (x87 : (List Int)) => pureM (x86 :: x87))) fun (x89 : (List Int)) => pureM (x88 :: x89)))) fun (x90 : (List Int)) => ofM x90) fun (x92 : Int) => pureM (x91 + x92)))) x93) fun (x94 : (List Int)) => optM (some x94)) fun (r71 : (List Int)) => (Pz.bindM (Pz.bindM (Pz.bindM (smallM (Pz.bindM (Pz.bindM (pureM r68) fun (x99 : (Int × Int × (List Int) × Unit)) => pureM ((eP (eC eInt (eC eInt (eC (eT eInt) eU)))) x99)) fun (x100 : PyData) => (Pz.bindM (Pz.bindM (Pz.bindM (pureM r71) fun (x96 : (List Int)) => pureM ((eT eInt) x96)) fun (x97 : PyData) => (Pz.bindM (pureM ([] : List PyData)) fun (x98 : (List PyData)) => pureM (x97 :: x98))) fun (x101 : (List PyData)) => pureM (x100 :: x101)))) fun (x102 : (List PyData)) => optM (reprO ((eL eD) x102))) fun (x105 : Str) => (Pz.bindM (Pz.bindM (pureM r68) fun (x103 : (Int × Int × (List Int) × Unit)) => (Pz.bindM (pureM r71) fun (x104 : (List Int)) => m_color_paper x103 x104)) fun (x106 : PyData) => pureM (x105, x106))) fun (r95 : (Str × PyData)) => (Pz.bindM (Pz.bindM (Pz.bindM (Pz.bindM (pureM r95.2) fun (x107 : PyData) => optM (reprO (eD x107))) fun (x111 : Str) => (Pz.bindM (Pz.bindM (Pz.bindM (pureM r68) fun (x108 : (Int × Int × (List Int) × Unit)) => (Pz.bindM (pureM r71) fun (x109 : (List Int)) => m__law_told x108 x109)) fun (x110 : PyData) => optM (reprO (eD x110))) fun (x112 : Str) => pureM (!decide (x111 = x112)))) fun (x117 : Bool) => if x117 then pureM true else (Pz.bindM (Pz.bindM (pureM r68) fun (x113 : (Int × Int × (List Int) × Unit)) => (Pz.bindM (pureM r71) fun (x114 : (List Int)) => (Pz.bindM (pureM r95.2) fun (x115 : PyData) => m__law_fault x113 x114 x115))) fun (x116 : PyData) => pureM (!isNon x116))) fun (x118 : Bool) => if x118 then Pz.bindM (pureM false) (fun (x354 : Bool) => pureM (Out.rt x354)) else (Pz.bindM (Pz.bindM (Pz.bindM (pureM r61.2) fun (x120 : Int) => m__law_pick x120) fun (x122 : Int) => (Pz.bindM (Pz.bindM (pureM r1) fun (x121 : (List PyData)) => ofM x121) fun (x123 : PyData) => pureM (x122, x123))) fun (r119 : (Int × PyData)) => (Pz.bindM (Pz.bindM (pureM r61.1) fun (x127 : Int) => (Pz.bindM (Pz.bindM (pureM r71) fun (x125 : (List Int)) => (Pz.bindM (pureM r119.1) fun (x126 : Int) => optM (atI x125 x126))) fun (x128 : Int) => m__law_lots x127 x128)) fun (r124 : (List (List Int))) => (Pz.bindM (Pz.bindM (Pz.bindM (pureM r124) fun (x130 : (List (List Int))) => (Pz.bindM (smallM (pureM ([] : List (List Int)))) fun (x131 : (List (List Int))) => pureM (!decide (x130 = x131)))) fun (x142 : Bool) => if x142 then (Pz.bindM (pureM r124) fun (x137 : (List (List Int))) => ofM x137) else (smallM (Pz.bindM (pureM (0 : Int)) fun (x140 : Int) => (Pz.bindM (Pz.bindM (pureM (1 : Int)) fun (x138 : Int) => (Pz.bindM (pureM ([] : List Int)) fun (x139 : (List Int)) => pureM (x138 :: x139))) fun (x141 : (List Int)) => pureM (x140 :: x141))))) fun (r129 : (List Int)) => (Pz.bindM (smallM (Pz.bindM (pureM r95.2) fun (x190 : PyData) => (Pz.bindM (Pz.bindM (Pz.bindM (Pz.bindM (pureM ("lot" : Str)) fun (x185 : Str) => (Pz.bindM (Pz.bindM (pureM r119.1) fun (x183 : Int) => (Pz.bindM (Pz.bindM (pureM r129) fun (x181 : (List Int)) => (Pz.bindM (pureM ()) fun (x182 : Unit) => pureM (x181, x182))) fun (x184 : ((List Int) × Unit)) => pureM (x183, x184))) fun (x186 : (Int × ((List Int) × Unit))) => pureM (x185, x186))) fun (x187 : (Str × Int × (List Int) × Unit)) => pureM ((eP (eC eStr (eC eInt (eC (eT eInt) eU)))) x187)) fun (x188 : PyData) => (Pz.bindM (Pz.bindM (Pz.bindM (Pz.bindM (pureM ("none" : Str)) fun (x176 : Str) => (Pz.bindM (pureM ()) fun (x177 : Unit) => pureM (x176, x177))) fun (x178 : (Str × Unit)) => pureM ((eP (eC eStr eU)) x178)) fun (x179 : PyData) => (Pz.bindM (Pz.bindM (Pz.bindM (Pz.bindM (pureM ("lot" : Str)) fun (x171 : Str) => (Pz.bindM (Pz.bindM (pureM r119.1) fun (x169 : Int) => (Pz.bindM (Pz.bindM (Pz.bindM (pureM r129) fun (x166 : (List Int)) => pureM x166.reverse) fun (x167 : (List Int)) => (Pz.bindM (pureM ()) fun (x168 : Unit) => pureM (x167, x168))) fun (x170 : ((List Int) × Unit)) => pureM (x169, x170))) fun (x172 : (Int × ((List Int) × Unit))) => pureM (x171, x172))) fun (x173 : (Str × Int × (List Int) × Unit)) => pureM ((eP (eC eStr (eC eInt (eC (eT eInt) eU)))) x173)) fun (x174 : PyData) => (Pz.bindM (Pz.bindM (Pz.bindM (Pz.bindM (pureM ("lot" : Str)) fun (x161 : Str) => (Pz.bindM (Pz.bindM (pureM r119.1) fun (x159 : Int) => (Pz.bindM (Pz.bindM (Pz.bindM (pureM r129) fun (x154 : (List Int)) => (Pz.bindM (Pz.bindM (pureM (1 : Int)) fun (x153 : Int) => pureM (some x153)) fun (x155 : (Option Int)) => (Pz.bindM (pureM (none : Option Int)) fun (x156 : (Option Int)) => pureM (cutL x154 x155 x156)))) fun (x157 : (List Int)) => (Pz.bindM (pureM ()) fun (x158 : Unit) => pureM (x157, x158))) fun (x160 : ((List Int) × Unit)) => pureM (x159, x160))) fun (x162 : (Int × ((List Int) × Unit))) => pureM (x161, x162))) fun (x163 : (Str × Int × (List Int) × Unit)) => pureM ((eP (eC eStr (eC eInt (eC (eT eInt) eU)))) x163)) fun (x164 : PyData) => (Pz.bindM (Pz.bindM (Pz.bindM (Pz.bindM (pureM ("lot" : Str)) fun (x148 : Str) => (Pz.bindM (Pz.bindM (pureM r119.2) fun (x146 : PyData) => (Pz.bindM (Pz.bindM (pureM r129) fun (x144 : (List Int)) => (Pz.bindM (pureM ()) fun (x145 : Unit) => pureM (x144, x145))) fun (x147 : ((List Int) × Unit)) => pureM (x146, x147))) fun (x149 : (PyData × ((List Int) × Unit))) => pureM (x148, x149))) fun (x150 : (Str × PyData × (List Int) × Unit)) => pureM ((eP (eC eStr (eC eD (eC (eT eInt) eU)))) x150)) fun (x151 : PyData) => (Pz.bindM (pureM ([] : List PyData)) fun (x152 : (List PyData)) => pureM (x151 :: x152))) fun (x165 : (List PyData)) => pureM (x164 :: x165))) fun (x175 : (List PyData)) => pureM (x174 :: x175))) fun (x180 : (List PyData)) => pureM (x179 :: x180))) fun (x189 : (List PyData)) => pureM (x188 :: x189))) fun (x191 : (List PyData)) => pureM (x190 :: x191)))) fun (r143 : (List PyData)) => (Pz.bindM (Pz.bindM (pureM r143) fun (x241 : (List PyData)) => (Pz.bindM (smallM (Pz.bindM (Pz.bindM (Pz.bindM (pureM ("lot" : Str)) fun (x236 : Str) => (Pz.bindM (Pz.bindM (pureM r119.1) fun (x234 : Int) => (Pz.bindM (Pz.bindM (pureM r119.2) fun (x232 : PyData) => (Pz.bindM (pureM ()) fun (x233 : Unit) => pureM (x232, x233))) fun (x235 : (PyData × Unit)) => pureM (x234, x235))) fun (x237 : (Int × (PyData × Unit))) => pureM (x236, x237))) fun (x238 : (Str × Int × PyData × Unit)) => pureM ((eP (eC eStr (eC eInt (eC eD eU)))) x238)) fun (x239 : PyData) => (Pz.bindM (Pz.bindM (Pz.bindM (Pz.bindM (pureM r119.2) fun (x227 : PyData) => (Pz.bindM (Pz.bindM (pureM r119.1) fun (x225 : Int) => (Pz.bindM (Pz.bindM (pureM r129) fun (x223 : (List Int)) => (Pz.bindM (pureM ()) fun (x224 : Unit) => pureM (x223, x224))) fun (x226 : ((List Int) × Unit)) => pureM (x225, x226))) fun (x228 : (Int × ((List Int) × Unit))) => pureM (x227, x228))) fun (x229 : (PyData × Int × (List Int) × Unit)) => pureM ((eP (eC eD (eC eInt (eC (eT eInt) eU)))) x229)) fun (x230 : PyData) => (Pz.bindM (Pz.bindM (Pz.bindM (Pz.bindM (pureM ("lot" : Str)) fun (x218 : Str) => (Pz.bindM (Pz.bindM (pureM r119.1) fun (x216 : Int) => (Pz.bindM (Pz.bindM (Pz.bindM (pureM r129) fun (x213 : (List Int)) => optM (some x213)) fun (x214 : (List Int)) => (Pz.bindM (pureM ()) fun (x215 : Unit) => pureM (x214, x215))) fun (x217 : ((List Int) × Unit)) => pureM (x216, x217))) fun (x219 : (Int × ((List Int) × Unit))) => pureM (x218, x219))) fun (x220 : (Str × Int × (List Int) × Unit)) => pureM ((eP (eC eStr (eC eInt (eC (eL eInt) eU)))) x220)) fun (x221 : PyData) => (Pz.bindM (Pz.bindM (Pz.bindM (Pz.bindM (pureM ("lot" : Str)) fun (x208 : Str) => (Pz.bindM (Pz.bindM (pureM r61.2) fun (x206 : Int) => (Pz.bindM (Pz.bindM (pureM r129) fun (x204 : (List Int)) => (Pz.bindM (pureM ()) fun (x205 : Unit) => pureM (x204, x205))) fun (x207 : ((List Int) × Unit)) => pureM (x206, x207))) fun (x209 : (Int × ((List Int) × Unit))) => pureM (x208, x209))) fun (x210 : (Str × Int × (List Int) × Unit)) => pureM ((eP (eC eStr (eC eInt (eC (eT eInt) eU)))) x210)) fun (x211 : PyData) => (Pz.bindM (Pz.bindM (Pz.bindM (Pz.bindM (Pz.bindM (pureM r95.2) fun (x197 : PyData) => optM (asTup x197)) fun (x199 : (List PyData)) => (Pz.bindM (Pz.bindM (Pz.bindM (pureM (0 : Int)) fun (x195 : Int) => (Pz.bindM (pureM ()) fun (x196 : Unit) => pureM (x195, x196))) fun (x198 : (Int × Unit)) => pureM ((fun p : (Int × Unit) => [eInt p.1]) x198)) fun (x200 : (List PyData)) => optM (catO x199 x200))) fun (x201 : (List PyData)) => pureM ((eT eD) x201)) fun (x202 : PyData) => (Pz.bindM (pureM ([] : List PyData)) fun (x203 : (List PyData)) => pureM (x202 :: x203))) fun (x212 : (List PyData)) => pureM (x211 :: x212))) fun (x222 : (List PyData)) => pureM (x221 :: x222))) fun (x231 : (List PyData)) => pureM (x230 :: x231))) fun (x240 : (List PyData)) => pureM (x239 :: x240)))) fun (x242 : (List PyData)) => optM (catO x241 x242))) fun (r192 : (List PyData)) => (Pz.bindM (Pz.bindM (pureM r192) fun (x253 : (List PyData)) => (Pz.bindM (smallM (Pz.bindM (Pz.bindM (pureM ()) fun (x250 : Unit) => pureM (eNon x250)) fun (x251 : PyData) => (Pz.bindM (Pz.bindM (Pz.bindM (pureM ()) fun (x247 : (Unit)) => pureM ((eP eU) x247)) fun (x248 : PyData) => (Pz.bindM (Pz.bindM (Pz.bindM (pureM ("none" : Str)) fun (x244 : Str) => pureM (eStr x244)) fun (x245 : PyData) => (Pz.bindM (pureM ([] : List PyData)) fun (x246 : (List PyData)) => pureM (x245 :: x246))) fun (x249 : (List PyData)) => pureM (x248 :: x249))) fun (x252 : (List PyData)) => pureM (x251 :: x252)))) fun (x254 : (List PyData)) => optM (catO x253 x254))) fun (r243 : (List PyData)) => (Pz.bindM (Pz.bindM (pureM r243) fun (x303 : (List PyData)) => (Pz.bindM (smallM (Pz.bindM (Pz.bindM (Pz.bindM (pureM ("lot" : Str)) fun (x298 : Str) => (Pz.bindM (Pz.bindM (pureM r119.1) fun (x296 : Int) => (Pz.bindM (Pz.bindM (Pz.bindM (Pz.bindM (Pz.bindM (Pz.bindM (pureM r129) fun (x278 : (List Int)) => (Pz.bindM (pureM (none : Option Int)) fun (x279 : (Option Int)) => (Pz.bindM (Pz.bindM (pureM (1 : Int)) fun (x277 : Int) => pureM (some x277)) fun (x280 : (Option Int)) => pureM (cutL x278 x279 x280)))) fun (x283 : (List Int)) => pureM ((List.map eInt) x283)) fun (x285 : (List PyData)) => (Pz.bindM (Pz.bindM (Pz.bindM (pureM r119.2) fun (x281 : PyData) => (Pz.bindM (pureM ()) fun (x282 : Unit) => pureM (x281, x282))) fun (x284 : (PyData × Unit)) => pureM ((fun p : (PyData × Unit) => [p.1]) x284)) fun (x286 : (List PyData)) => optM (catO x285 x286))) fun (x292 : (List PyData)) => (Pz.bindM (Pz.bindM (Pz.bindM (pureM r129) fun (x288 : (List Int)) => (Pz.bindM (Pz.bindM (pureM (2 : Int)) fun (x287 : Int) => pureM (some x287)) fun (x289 : (Option Int)) => (Pz.bindM (pureM (none : Option Int)) fun (x290 : (Option Int)) => pureM (cutL x288 x289 x290)))) fun (x291 : (List Int)) => pureM ((List.map eInt) x291)) fun (x293 : (List PyData)) => optM (catO x292 x293))) fun (x294 : (List PyData)) => (Pz.bindM (pureM ()) fun (x295 : Unit) => pureM (x294, x295))) fun (x297 : ((List PyData) × Unit)) => pureM (x296, x297))) fun (x299 : (Int × ((List PyData) × Unit))) => pureM (x298, x299))) fun (x300 : (Str × Int × (List PyData) × Unit)) => pureM ((eP (eC eStr (eC eInt (eC (eT eD) eU)))) x300)) fun (x301 : PyData) => (Pz.bindM (Pz.bindM (Pz.bindM (Pz.bindM (Pz.bindM (pureM r95.2) fun (x272 : PyData) => optM (asTup x272)) fun (x273 : (List PyData)) => optM (some x273)) fun (x274 : (List PyData)) => pureM ((eL eD) x274)) fun (x275 : PyData) => (Pz.bindM (Pz.bindM (Pz.bindM (Pz.bindM (pureM ("none" : Str)) fun (x267 : Str) => (Pz.bindM (Pz.bindM (pureM (0 : Int)) fun (x265 : Int) => (Pz.bindM (pureM ()) fun (x266 : Unit) => pureM (x265, x266))) fun (x268 : (Int × Unit)) => pureM (x267, x268))) fun (x269 : (Str × Int × Unit)) => pureM ((eP (eC eStr (eC eInt eU))) x269)) fun (x270 : PyData) => (Pz.bindM (Pz.bindM (pureM r119.2) fun (x263 : PyData) => (Pz.bindM (Pz.bindM (Pz.bindM (Pz.bindM (pureM ("lot" : Str)) fun (x258 : Str) => (Pz.bindM (Pz.bindM (pureM r119.1) fun (x256 : Int) => (Pz.bindM (pureM ()) fun (x257 : Unit) => pureM (x256, x257))) fun (x259 : (Int × Unit)) => pureM (x258, x259))) fun (x260 : (Str × Int × Unit)) => pureM ((eP (eC eStr (eC eInt eU))) x260)) fun (x261 : PyData) => (Pz.bindM (pureM ([] : List PyData)) fun (x262 : (List PyData)) => pureM (x261 :: x262))) fun (x264 : (List PyData)) => pureM (x263 :: x264))) fun (x271 : (List PyData)) => pureM (x270 :: x271))) fun (x276 : (List PyData)) => pureM (x275 :: x276))) fun (x302 : (List PyData)) => pureM (x301 :: x302)))) fun (x304 : (List PyData)) => optM (catO x303 x304))) fun (r255 : (List PyData)) => (Pz.bindM (Pz.bindM (pureM r255) fun (x341 : (List PyData)) => forO (fun (b306 : Unit) (y305 : PyData) => (Pz.bindM (Pz.bindM (Pz.bindM (pureM y305) fun (x308 : PyData) => optM (reprO (eD x308))) fun (x312 : Str) => (Pz.bindM (Pz.bindM (pureM r68) fun (x309 : (Int × Int × (List Int) × Unit)) => (Pz.bindM (pureM r71) fun (x310 : (List Int)) => (Pz.bindM (pureM y305) fun (x311 : PyData) => m__law_fault x309 x310 x311))) fun (x313 : PyData) => pureM (x312, x313))) fun (r307 : (Str × PyData)) => (Pz.bindM (Pz.bindM (Pz.bindM (Pz.bindM (Pz.bindM (pureM r68) fun (x314 : (Int × Int × (List Int) × Unit)) => (Pz.bindM (pureM r71) fun (x315 : (List Int)) => (Pz.bindM (pureM y305) fun (x316 : PyData) => m_judge_color x314 x315 x316))) fun (x317 : PyData) => optM (reprO (eD x317))) fun (x319 : Str) => (Pz.bindM (Pz.bindM (pureM r307.2) fun (x318 : PyData) => optM (reprO (eD x318))) fun (x320 : Str) => pureM (!decide (x319 = x320)))) fun (x324 : Bool) => if x324 then pureM true else (Pz.bindM (Pz.bindM (pureM y305) fun (x321 : PyData) => optM (reprO (eD x321))) fun (x322 : Str) => (Pz.bindM (pureM r307.1) fun (x323 : Str) => pureM (!decide (x322 = x323))))) fun (x325 : Bool) => if x325 then Pz.bindM (pureM false) (fun (x340 : Bool) => pureM (Out.rt x340)) else (Pz.bindM (Pz.bindM (Pz.bindM (pureM r307.2) fun (x326 : PyData) => pureM (isNon x326)) fun (x337 : Bool) => if x337 then (Pz.bindM (Pz.bindM (Pz.bindM (pureM y305) fun (x327 : PyData) => optM (asTup x327)) fun (x328 : (List PyData)) => (Pz.bindM (pureM (0 : Int)) fun (x329 : Int) => optM (atI x328 x329))) fun (x335 : PyData) => (Pz.bindM (Pz.bindM (Pz.bindM (pureM r95.2) fun (x330 : PyData) => optM (asTup x330)) fun (x331 : (List PyData)) => (Pz.bindM (pureM (0 : Int)) fun (x332 : Int) => optM (atI x331 x332))) fun (x336 : PyData) => optM ((eqZ (eD x335) (eD x336)).map (!·)))) else pureM false) fun (x338 : Bool) => if x338 then Pz.bindM (pureM false) (fun (x339 : Bool) => pureM (Out.rt x339)) else (pureM (Out.nx ())))))) x341 ()) fun o => caseO o (fun (r342 : Unit) => (Pz.bindM (Pz.bindM (Pz.bindM (smallM (Pz.bindM (Pz.bindM (pureM r68) fun (x346 : (Int × Int × (List Int) × Unit)) => pureM ((eP (eC eInt (eC eInt (eC (eT eInt) eU)))) x346)) fun (x347 : PyData) => (Pz.bindM (Pz.bindM (Pz.bindM (pureM r71) fun (x343 : (List Int)) => pureM ((eT eInt) x343)) fun (x344 : PyData) => (Pz.bindM (pureM ([] : List PyData)) fun (x345 : (List PyData)) => pureM (x344 :: x345))) fun (x348 : (List PyData)) => pureM (x347 :: x348)))) fun (x349 : (List PyData)) => optM (reprO ((eL eD) x349))) fun (x350 : Str) => (Pz.bindM (pureM r95.1) fun (x351 : Str) => pureM (!decide (x350 = x351)))) fun (x352 : Bool) => if x352 then Pz.bindM (pureM false) (fun (x353 : Bool) => pureM (Out.rt x353)) else (pureM (Out.nx ())))) (fun r => pureM (Out.rt r)))))))))))))))) x355 ()) fun o => caseO o (fun (r356 : Unit) => (Pz.bindM (Pz.bindM (Pz.bindM (pureM (2 : Int)) fun (x363 : Int) => (Pz.bindM (Pz.bindM (pureM (1 : Int)) fun (x361 : Int) => (Pz.bindM (Pz.bindM (smallM (Pz.bindM (pureM (0 : Int)) fun (x357 : Int) => (Pz.bindM (pureM ([] : List Int)) fun (x358 : (List Int)) => pureM (x357 :: x358)))) fun (x359 : (List Int)) => (Pz.bindM (pureM ()) fun (x360 : Unit) => pureM (x359, x360))) fun (x362 : ((List Int) × Unit)) => pureM (x361, x362))) fun (x364 : (Int × ((List Int) × Unit))) => pureM (x363, x364))) fun (x367 : (Int × Int × (List Int) × Unit)) => (Pz.bindM (smallM (Pz.bindM (pureM (3 : Int)) fun (x365 : Int) => (Pz.bindM (pureM ([] : List Int)) fun (x366 : (List Int)) => pureM (x365 :: x366)))) fun (x368 : (List Int)) => m_color_paper x367 x368)) fun (x371 : PyData) => (Pz.bindM (Pz.bindM (pureM ("none" : Str)) fun (x369 : Str) => (Pz.bindM (pureM ()) fun (x370 : Unit) => pureM (x369, x370))) fun (x372 : (Str × Unit)) => optM (eqZ (eD x371) ((eP (eC eStr eU)) x372))))) pureM))
theorem ok_law {f : Addr} {fd : FuncData} (F : Fun K "law" "law" s_law f fd) (B : Bl mg) {fs : Addr} {ds : FuncData} (C : Cal K mg "_law_open_cells" fs ds ["script"]) (Fs : FnG P w K mg base 1 fs ds ["script"] (spSource K))
    {f__law_pick : Addr} {d__law_pick : FuncData} (C__law_pick : Cal K mg "_law_pick" f__law_pick d__law_pick ["source", "most"]) (F__law_pick : FnG P w K mg base 1 f__law_pick d__law_pick ["source", "most"] (SpM (fun p : Int × Unit => [.src, .fz (eInt p.1)]) eInt (fun p => pickM p.1)))
    {f__law_pairs : Addr} {d__law_pairs : FuncData} (C__law_pairs : Cal K mg "_law_pairs" f__law_pairs d__law_pairs ["source", "n", "c"]) (F__law_pairs : FnG P w K mg base 2 f__law_pairs d__law_pairs ["source", "n", "c"] (SpM (fun p : Int × Int × Unit => [.src, .fz (eInt p.1), .fz (eInt p.2.1)]) (eP (eC eInt (eC eInt (eC (eT eInt) eU)))) (fun p : Int × Int × Unit => m__law_pairs p.1 p.2.1)))
    {f__law_of : Addr} {d__law_of : FuncData} (C__law_of : Cal K mg "_law_of" f__law_of d__law_of ["source", "some"]) (F__law_of : OfG P w K mg base f__law_of d__law_of)
    {f_color_paper : Addr} {d_color_paper : FuncData} (C_color_paper : Cal K mg "color_paper" f_color_paper d_color_paper ["pairs", "sizes"]) (F_color_paper : FnG P w K mg base 4 f_color_paper d_color_paper ["pairs", "sizes"] (SpM (fun p : (Int × Int × (List Int) × Unit) × (List Int) × Unit => [.fz ((eP (eC eInt (eC eInt (eC (eT eInt) eU)))) p.1), .fz ((eT eInt) p.2.1)]) eD (fun p : (Int × Int × (List Int) × Unit) × (List Int) × Unit => m_color_paper p.1 p.2.1)))
    {f__law_told : Addr} {d__law_told : FuncData} (C__law_told : Cal K mg "_law_told" f__law_told d__law_told ["pairs", "sizes"]) (F__law_told : FnG P w K mg base 3 f__law_told d__law_told ["pairs", "sizes"] (SpM (fun p : (Int × Int × (List Int) × Unit) × (List Int) × Unit => [.fz ((eP (eC eInt (eC eInt (eC (eT eInt) eU)))) p.1), .fz ((eT eInt) p.2.1)]) eD (fun p : (Int × Int × (List Int) × Unit) × (List Int) × Unit => m__law_told p.1 p.2.1)))
    {f__law_fault : Addr} {d__law_fault : FuncData} (C__law_fault : Cal K mg "_law_fault" f__law_fault d__law_fault ["pairs", "sizes", "value"]) (F__law_fault : FnG P w K mg base 4 f__law_fault d__law_fault ["pairs", "sizes", "value"] (SpM (fun p : (Int × Int × (List Int) × Unit) × (List Int) × PyData × Unit => [.fz ((eP (eC eInt (eC eInt (eC (eT eInt) eU)))) p.1), .fz ((eT eInt) p.2.1), .fz (eD p.2.2.1)]) eD (fun p : (Int × Int × (List Int) × Unit) × (List Int) × PyData × Unit => m__law_fault p.1 p.2.1 p.2.2.1)))
    {f__law_lots : Addr} {d__law_lots : FuncData} (C__law_lots : Cal K mg "_law_lots" f__law_lots d__law_lots ["n", "k"]) (F__law_lots : FnG P w K mg base 1 f__law_lots d__law_lots ["n", "k"] (SpM (fun p : Int × Int × Unit => [.fz (eInt p.1), .fz (eInt p.2.1)]) (eL (eT eInt)) (fun p : Int × Int × Unit => m__law_lots p.1 p.2.1)))
    {f_judge_color : Addr} {d_judge_color : FuncData} (C_judge_color : Cal K mg "judge_color" f_judge_color d_judge_color ["pairs", "sizes", "value"]) (F_judge_color : FnG P w K mg base 5 f_judge_color d_judge_color ["pairs", "sizes", "value"] (SpM (fun p : (Int × Int × (List Int) × Unit) × (List Int) × PyData × Unit => [.fz ((eP (eC eInt (eC eInt (eC (eT eInt) eU)))) p.1), .fz ((eT eInt) p.2.1), .fz (eD p.2.2.1)]) eD (fun p : (Int × Int × (List Int) × Unit) × (List Int) × PyData × Unit => m_judge_color p.1 p.2.1 p.2.2.1)))
    (hm : Sat m_law fun r => r = true) :
    FnG P w K mg base 6 f fd ["script"] (SpLaw K) := by
  refine law_ok F sc_law rfl rfl C (Fs.mono (by decide)) m_law (fun st => let ⟨r, u, e, q⟩ := hm st; ⟨u, by rw [e, q]⟩) ⟨by first | exact Or.inl rfl | exact Or.inr rfl, by first | exact Or.inl rfl | exact Or.inr (Or.inl rfl) | exact Or.inr (Or.inr rfl)⟩ (fun _ _ _ _ _ _ => ⟨by decide, rfl, rfl, rfl, by first | exact Or.inl rfl | exact Or.inr rfl⟩) ?_
  intro cdv A above s H E R hG hr
  have sc := sc_law
  exact (s_step (Γ1 := fun (r1 : (List PyData)) => [.un, .src, .fz ((eL eD) r1), .un, .un, .un, .un, .un, .un, .un, .un, .un, .un, .un, .un, .un, .un, .un]) (q_set 2 (f_e (f_list (l_cons (e_enc (eb := eD) (fun x => eNon x) e_non (fun _ => rfl)) (l_cons (e_enc (eb := eD) (fun x => eBool x) e_bool (fun _ => rfl)) (l_cons (e_enc (eb := eD) (fun x => eInt x) e_int (fun _ => rfl)) (l_cons (e_enc (eb := eD) (fun x => eInt x) e_int (fun _ => rfl)) (l_cons (e_enc (eb := eD) (fun x => eInt x) e_int (fun _ => rfl)) (l_cons (e_enc (eb := eD) (fun x => eInt x) (e_neg e_int) (fun _ => rfl)) (l_cons (e_enc (eb := eD) (fun x => eStr x) e_str (fun _ => rfl)) (l_cons (e_enc (eb := eD) (fun x => eStr x) e_str (fun _ => rfl)) (l_cons (e_enc (eb := eD) (fun x => (eP eU) x) (e_tup eU a_nil (hl := fun _ => (by decide : 0 ≤ sizeLine))) (fun _ => rfl)) (l_cons (e_enc (eb := eD) (fun x => (eP (eC eInt eU)) x) (e_tup (eC eInt eU) (a_cons e_int a_nil) (hl := fun _ => (by decide : 1 ≤ sizeLine))) (fun _ => rfl)) (l_cons (e_enc (eb := eD) (fun x => (eP (eC eInt (eC eInt eU))) x) (e_tup (eC eInt (eC eInt eU)) (a_cons e_int (a_cons e_int a_nil)) (hl := fun _ => (by decide : 2 ≤ sizeLine))) (fun _ => rfl)) (l_cons (e_enc (eb := eD) (fun x => (eP (eC eInt (eC eInt eU))) x) (e_tup (eC eInt (eC eInt eU)) (a_cons e_int (a_cons e_int a_nil)) (hl := fun _ => (by decide : 2 ≤ sizeLine))) (fun _ => rfl)) (l_cons (e_enc (eb := eD) (fun x => (eL eInt) x) (f_e (f_list (l_cons e_int (l_cons e_int l_nil)))) (fun _ => rfl)) (l_cons e_dict0 l_nil)))))))))))))))) sc.nd) (fun (r1 : (List PyData)) => (s_step1 (er := eBool) (Γ1 := (fun (b : Unit) => [.un, .src, .fz ((eL eD) r1), .un, .un, .un, .un, .un, .un, .un, .un, .un, .un, .un, .un, .un, .un, .un])) (q_forO (er := eBool) (set := (st1 3 eInt)) (is := [3]) (fun (b : Unit) => [.un, .src, .fz ((eL eD) r1), .un, .un, .un, .un, .un, .un, .un, .un, .un, .un, .un, .un, .un, .un, .un]) () (fun (b60 : Unit) (y59 : Int) => (Pz.bindM (Pz.bindM (Pz.bindM (pureM (9 : Int)) fun (x62 : Int) => m__law_pick x62) fun (x66 : Int) => (Pz.bindM (Pz.bindM (pureM (1 : Int)) fun (x64 : Int) => (Pz.bindM (Pz.bindM (pureM (3 : Int)) fun (x63 : Int) => m__law_pick x63) fun (x65 : Int) => pureM (x64 + x65))) fun (x67 : Int) => pureM (x66, x67))) fun (r61 : (Int × Int)) => (Pz.bindM (Pz.bindM (pureM r61.1) fun (x69 : Int) => (Pz.bindM (pureM r61.2) fun (x70 : Int) => m__law_pairs x69 x70)) fun (r68 : (Int × Int × (List Int) × Unit)) => (Pz.bindM (Pz.bindM (Pz.bindM (Pz.bindM (pureM r61.2) fun (x72 : Int) => rangeM 0 x72) fun (x93 : (List Int)) => compM (fun (y73 : Int) => (pureM true)) (fun (y73 : Int) => (Pz.bindM (pureM (1 : Int)) fun (x91 : Int) => (Pz.bindM (Pz.bindM (smallM (Pz.bindM (pureM (0 : Int)) fun (x88 : Int) => (Pz.bindM (Pz.bindM (pureM (1 : Int)) fun (x86 : Int) => (Pz.bindM (Pz.bindM (pureM (2 : Int)) fun (x84 : Int) => (Pz.bindM (Pz.bindM (pureM (2 : Int)) fun (x82 : Int) => (Pz.bindM (Pz.bindM (pureM (2 : Int)) fun (x80 : Int) => (Pz.bindM (Pz.bindM (pureM (3 : Int)) fun (x78 : Int) => (Pz.bindM (Pz.bindM (pureM (3 : Int)) fun (x76 : Int) => (Pz.bindM (Pz.bindM (pureM (4 : Int)) fun (x74 : Int) => (Pz.bindM (pureM ([] : List Int)) fun (x75 : (List Int)) => pureM (x74 :: x75))) fun (x77 : (List Int)) => pureM (x76 :: x77))) fun (x79 : (List Int)) => pureM (x78 :: x79))) fun (x81 : (List Int)) => pureM (x80 :: x81))) fun (x83 : (List Int)) => pureM (x82 :: x83))) fun (x85 : (List Int)) => pureM (x84 :: x85))) fun (x87 : (List Int)) => pureM (x86 :: x87))) fun (x89 : (List Int)) => pureM (x88 :: x89)))) fun (x90 : (List Int)) => ofM x90) fun (x92 : Int) => pureM (x91 + x92)))) x93) fun (x94 : (List Int)) => optM (some x94)) fun (r71 : (List Int)) => (Pz.bindM (Pz.bindM (Pz.bindM (smallM (Pz.bindM (Pz.bindM (pureM r68) fun (x99 : (Int × Int × (List Int) × Unit)) => pureM ((eP (eC eInt (eC eInt (eC (eT eInt) eU)))) x99)) fun (x100 : PyData) => (Pz.bindM (Pz.bindM (Pz.bindM (pureM r71) fun (x96 : (List Int)) => pureM ((eT eInt) x96)) fun (x97 : PyData) => (Pz.bindM (pureM ([] : List PyData)) fun (x98 : (List PyData)) => pureM (x97 :: x98))) fun (x101 : (List PyData)) => pureM (x100 :: x101)))) fun (x102 : (List PyData)) => optM (reprO ((eL eD) x102))) fun (x105 : Str) => (Pz.bindM (Pz.bindM (pureM r68) fun (x103 : (Int × Int × (List Int) × Unit)) => (Pz.bindM (pureM r71) fun (x104 : (List Int)) => m_color_paper x103 x104)) fun (x106 : PyData) => pureM (x105, x106))) fun (r95 : (Str × PyData)) => (Pz.bindM (Pz.bindM (Pz.bindM (Pz.bindM (pureM r95.2) fun (x107 : PyData) => optM (reprO (eD x107))) fun (x111 : Str) => (Pz.bindM (Pz.bindM (Pz.bindM (pureM r68) fun (x108 : (Int × Int × (List Int) × Unit)) => (Pz.bindM (pureM r71) fun (x109 : (List Int)) => m__law_told x108 x109)) fun (x110 : PyData) => optM (reprO (eD x110))) fun (x112 : Str) => pureM (!decide (x111 = x112)))) fun (x117 : Bool) => if x117 then pureM true else (Pz.bindM (Pz.bindM (pureM r68) fun (x113 : (Int × Int × (List Int) × Unit)) => (Pz.bindM (pureM r71) fun (x114 : (List Int)) => (Pz.bindM (pureM r95.2) fun (x115 : PyData) => m__law_fault x113 x114 x115))) fun (x116 : PyData) => pureM (!isNon x116))) fun (x118 : Bool) => if x118 then Pz.bindM (pureM false) (fun (x354 : Bool) => pureM (Out.rt x354)) else (Pz.bindM (Pz.bindM (Pz.bindM (pureM r61.2) fun (x120 : Int) => m__law_pick x120) fun (x122 : Int) => (Pz.bindM (Pz.bindM (pureM r1) fun (x121 : (List PyData)) => ofM x121) fun (x123 : PyData) => pureM (x122, x123))) fun (r119 : (Int × PyData)) => (Pz.bindM (Pz.bindM (pureM r61.1) fun (x127 : Int) => (Pz.bindM (Pz.bindM (pureM r71) fun (x125 : (List Int)) => (Pz.bindM (pureM r119.1) fun (x126 : Int) => optM (atI x125 x126))) fun (x128 : Int) => m__law_lots x127 x128)) fun (r124 : (List (List Int))) => (Pz.bindM (Pz.bindM (Pz.bindM (pureM r124) fun (x130 : (List (List Int))) => (Pz.bindM (smallM (pureM ([] : List (List Int)))) fun (x131 : (List (List Int))) => pureM (!decide (x130 = x131)))) fun (x142 : Bool) => if x142 then (Pz.bindM (pureM r124) fun (x137 : (List (List Int))) => ofM x137) else (smallM (Pz.bindM (pureM (0 : Int)) fun (x140 : Int) => (Pz.bindM (Pz.bindM (pureM (1 : Int)) fun (x138 : Int) => (Pz.bindM (pureM ([] : List Int)) fun (x139 : (List Int)) => pureM (x138 :: x139))) fun (x141 : (List Int)) => pureM (x140 :: x141))))) fun (r129 : (List Int)) => (Pz.bindM (smallM (Pz.bindM (pureM r95.2) fun (x190 : PyData) => (Pz.bindM (Pz.bindM (Pz.bindM (Pz.bindM (pureM ("lot" : Str)) fun (x185 : Str) => (Pz.bindM (Pz.bindM (pureM r119.1) fun (x183 : Int) => (Pz.bindM (Pz.bindM (pureM r129) fun (x181 : (List Int)) => (Pz.bindM (pureM ()) fun (x182 : Unit) => pureM (x181, x182))) fun (x184 : ((List Int) × Unit)) => pureM (x183, x184))) fun (x186 : (Int × ((List Int) × Unit))) => pureM (x185, x186))) fun (x187 : (Str × Int × (List Int) × Unit)) => pureM ((eP (eC eStr (eC eInt (eC (eT eInt) eU)))) x187)) fun (x188 : PyData) => (Pz.bindM (Pz.bindM (Pz.bindM (Pz.bindM (pureM ("none" : Str)) fun (x176 : Str) => (Pz.bindM (pureM ()) fun (x177 : Unit) => pureM (x176, x177))) fun (x178 : (Str × Unit)) => pureM ((eP (eC eStr eU)) x178)) fun (x179 : PyData) => (Pz.bindM (Pz.bindM (Pz.bindM (Pz.bindM (pureM ("lot" : Str)) fun (x171 : Str) => (Pz.bindM (Pz.bindM (pureM r119.1) fun (x169 : Int) => (Pz.bindM (Pz.bindM (Pz.bindM (pureM r129) fun (x166 : (List Int)) => pureM x166.reverse) fun (x167 : (List Int)) => (Pz.bindM (pureM ()) fun (x168 : Unit) => pureM (x167, x168))) fun (x170 : ((List Int) × Unit)) => pureM (x169, x170))) fun (x172 : (Int × ((List Int) × Unit))) => pureM (x171, x172))) fun (x173 : (Str × Int × (List Int) × Unit)) => pureM ((eP (eC eStr (eC eInt (eC (eT eInt) eU)))) x173)) fun (x174 : PyData) => (Pz.bindM (Pz.bindM (Pz.bindM (Pz.bindM (pureM ("lot" : Str)) fun (x161 : Str) => (Pz.bindM (Pz.bindM (pureM r119.1) fun (x159 : Int) => (Pz.bindM (Pz.bindM (Pz.bindM (pureM r129) fun (x154 : (List Int)) => (Pz.bindM (Pz.bindM (pureM (1 : Int)) fun (x153 : Int) => pureM (some x153)) fun (x155 : (Option Int)) => (Pz.bindM (pureM (none : Option Int)) fun (x156 : (Option Int)) => pureM (cutL x154 x155 x156)))) fun (x157 : (List Int)) => (Pz.bindM (pureM ()) fun (x158 : Unit) => pureM (x157, x158))) fun (x160 : ((List Int) × Unit)) => pureM (x159, x160))) fun (x162 : (Int × ((List Int) × Unit))) => pureM (x161, x162))) fun (x163 : (Str × Int × (List Int) × Unit)) => pureM ((eP (eC eStr (eC eInt (eC (eT eInt) eU)))) x163)) fun (x164 : PyData) => (Pz.bindM (Pz.bindM (Pz.bindM (Pz.bindM (pureM ("lot" : Str)) fun (x148 : Str) => (Pz.bindM (Pz.bindM (pureM r119.2) fun (x146 : PyData) => (Pz.bindM (Pz.bindM (pureM r129) fun (x144 : (List Int)) => (Pz.bindM (pureM ()) fun (x145 : Unit) => pureM (x144, x145))) fun (x147 : ((List Int) × Unit)) => pureM (x146, x147))) fun (x149 : (PyData × ((List Int) × Unit))) => pureM (x148, x149))) fun (x150 : (Str × PyData × (List Int) × Unit)) => pureM ((eP (eC eStr (eC eD (eC (eT eInt) eU)))) x150)) fun (x151 : PyData) => (Pz.bindM (pureM ([] : List PyData)) fun (x152 : (List PyData)) => pureM (x151 :: x152))) fun (x165 : (List PyData)) => pureM (x164 :: x165))) fun (x175 : (List PyData)) => pureM (x174 :: x175))) fun (x180 : (List PyData)) => pureM (x179 :: x180))) fun (x189 : (List PyData)) => pureM (x188 :: x189))) fun (x191 : (List PyData)) => pureM (x190 :: x191)))) fun (r143 : (List PyData)) => (Pz.bindM (Pz.bindM (pureM r143) fun (x241 : (List PyData)) => (Pz.bindM (smallM (Pz.bindM (Pz.bindM (Pz.bindM (pureM ("lot" : Str)) fun (x236 : Str) => (Pz.bindM (Pz.bindM (pureM r119.1) fun (x234 : Int) => (Pz.bindM (Pz.bindM (pureM r119.2) fun (x232 : PyData) => (Pz.bindM (pureM ()) fun (x233 : Unit) => pureM (x232, x233))) fun (x235 : (PyData × Unit)) => pureM (x234, x235))) fun (x237 : (Int × (PyData × Unit))) => pureM (x236, x237))) fun (x238 : (Str × Int × PyData × Unit)) => pureM ((eP (eC eStr (eC eInt (eC eD eU)))) x238)) fun (x239 : PyData) => (Pz.bindM (Pz.bindM (Pz.bindM (Pz.bindM (pureM r119.2) fun (x227 : PyData) => (Pz.bindM (Pz.bindM (pureM r119.1) fun (x225 : Int) => (Pz.bindM (Pz.bindM (pureM r129) fun (x223 : (List Int)) => (Pz.bindM (pureM ()) fun (x224 : Unit) => pureM (x223, x224))) fun (x226 : ((List Int) × Unit)) => pureM (x225, x226))) fun (x228 : (Int × ((List Int) × Unit))) => pureM (x227, x228))) fun (x229 : (PyData × Int × (List Int) × Unit)) => pureM ((eP (eC eD (eC eInt (eC (eT eInt) eU)))) x229)) fun (x230 : PyData) => (Pz.bindM (Pz.bindM (Pz.bindM (Pz.bindM (pureM ("lot" : Str)) fun (x218 : Str) => (Pz.bindM (Pz.bindM (pureM r119.1) fun (x216 : Int) => (Pz.bindM (Pz.bindM (Pz.bindM (pureM r129) fun (x213 : (List Int)) => optM (some x213)) fun (x214 : (List Int)) => (Pz.bindM (pureM ()) fun (x215 : Unit) => pureM (x214, x215))) fun (x217 : ((List Int) × Unit)) => pureM (x216, x217))) fun (x219 : (Int × ((List Int) × Unit))) => pureM (x218, x219))) fun (x220 : (Str × Int × (List Int) × Unit)) => pureM ((eP (eC eStr (eC eInt (eC (eL eInt) eU)))) x220)) fun (x221 : PyData) => (Pz.bindM (Pz.bindM (Pz.bindM (Pz.bindM (pureM ("lot" : Str)) fun (x208 : Str) => (Pz.bindM (Pz.bindM (pureM r61.2) fun (x206 : Int) => (Pz.bindM (Pz.bindM (pureM r129) fun (x204 : (List Int)) => (Pz.bindM (pureM ()) fun (x205 : Unit) => pureM (x204, x205))) fun (x207 : ((List Int) × Unit)) => pureM (x206, x207))) fun (x209 : (Int × ((List Int) × Unit))) => pureM (x208, x209))) fun (x210 : (Str × Int × (List Int) × Unit)) => pureM ((eP (eC eStr (eC eInt (eC (eT eInt) eU)))) x210)) fun (x211 : PyData) => (Pz.bindM (Pz.bindM (Pz.bindM (Pz.bindM (Pz.bindM (pureM r95.2) fun (x197 : PyData) => optM (asTup x197)) fun (x199 : (List PyData)) => (Pz.bindM (Pz.bindM (Pz.bindM (pureM (0 : Int)) fun (x195 : Int) => (Pz.bindM (pureM ()) fun (x196 : Unit) => pureM (x195, x196))) fun (x198 : (Int × Unit)) => pureM ((fun p : (Int × Unit) => [eInt p.1]) x198)) fun (x200 : (List PyData)) => optM (catO x199 x200))) fun (x201 : (List PyData)) => pureM ((eT eD) x201)) fun (x202 : PyData) => (Pz.bindM (pureM ([] : List PyData)) fun (x203 : (List PyData)) => pureM (x202 :: x203))) fun (x212 : (List PyData)) => pureM (x211 :: x212))) fun (x222 : (List PyData)) => pureM (x221 :: x222))) fun (x231 : (List PyData)) => pureM (x230 :: x231))) fun (x240 : (List PyData)) => pureM (x239 :: x240)))) fun (x242 : (List PyData)) => optM (catO x241 x242))) fun (r192 : (List PyData)) => (Pz.bindM (Pz.bindM (pureM r192) fun (x253 : (List PyData)) => (Pz.bindM (smallM (Pz.bindM (Pz.bindM (pureM ()) fun (x250 : Unit) => pureM (eNon x250)) fun (x251 : PyData) => (Pz.bindM (Pz.bindM (Pz.bindM (pureM ()) fun (x247 : (Unit)) => pureM ((eP eU) x247)) fun (x248 : PyData) => (Pz.bindM (Pz.bindM (Pz.bindM (pureM ("none" : Str)) fun (x244 : Str) => pureM (eStr x244)) fun (x245 : PyData) => (Pz.bindM (pureM ([] : List PyData)) fun (x246 : (List PyData)) => pureM (x245 :: x246))) fun (x249 : (List PyData)) => pureM (x248 :: x249))) fun (x252 : (List PyData)) => pureM (x251 :: x252)))) fun (x254 : (List PyData)) => optM (catO x253 x254))) fun (r243 : (List PyData)) => (Pz.bindM (Pz.bindM (pureM r243) fun (x303 : (List PyData)) => (Pz.bindM (smallM (Pz.bindM (Pz.bindM (Pz.bindM (pureM ("lot" : Str)) fun (x298 : Str) => (Pz.bindM (Pz.bindM (pureM r119.1) fun (x296 : Int) => (Pz.bindM (Pz.bindM (Pz.bindM (Pz.bindM (Pz.bindM (Pz.bindM (pureM r129) fun (x278 : (List Int)) => (Pz.bindM (pureM (none : Option Int)) fun (x279 : (Option Int)) => (Pz.bindM (Pz.bindM (pureM (1 : Int)) fun (x277 : Int) => pureM (some x277)) fun (x280 : (Option Int)) => pureM (cutL x278 x279 x280)))) fun (x283 : (List Int)) => pureM ((List.map eInt) x283)) fun (x285 : (List PyData)) => (Pz.bindM (Pz.bindM (Pz.bindM (pureM r119.2) fun (x281 : PyData) => (Pz.bindM (pureM ()) fun (x282 : Unit) => pureM (x281, x282))) fun (x284 : (PyData × Unit)) => pureM ((fun p : (PyData × Unit) => [p.1]) x284)) fun (x286 : (List PyData)) => optM (catO x285 x286))) fun (x292 : (List PyData)) => (Pz.bindM (Pz.bindM (Pz.bindM (pureM r129) fun (x288 : (List Int)) => (Pz.bindM (Pz.bindM (pureM (2 : Int)) fun (x287 : Int) => pureM (some x287)) fun (x289 : (Option Int)) => (Pz.bindM (pureM (none : Option Int)) fun (x290 : (Option Int)) => pureM (cutL x288 x289 x290)))) fun (x291 : (List Int)) => pureM ((List.map eInt) x291)) fun (x293 : (List PyData)) => optM (catO x292 x293))) fun (x294 : (List PyData)) => (Pz.bindM (pureM ()) fun (x295 : Unit) => pureM (x294, x295))) fun (x297 : ((List PyData) × Unit)) => pureM (x296, x297))) fun (x299 : (Int × ((List PyData) × Unit))) => pureM (x298, x299))) fun (x300 : (Str × Int × (List PyData) × Unit)) => pureM ((eP (eC eStr (eC eInt (eC (eT eD) eU)))) x300)) fun (x301 : PyData) => (Pz.bindM (Pz.bindM (Pz.bindM (Pz.bindM (Pz.bindM (pureM r95.2) fun (x272 : PyData) => optM (asTup x272)) fun (x273 : (List PyData)) => optM (some x273)) fun (x274 : (List PyData)) => pureM ((eL eD) x274)) fun (x275 : PyData) => (Pz.bindM (Pz.bindM (Pz.bindM (Pz.bindM (pureM ("none" : Str)) fun (x267 : Str) => (Pz.bindM (Pz.bindM (pureM (0 : Int)) fun (x265 : Int) => (Pz.bindM (pureM ()) fun (x266 : Unit) => pureM (x265, x266))) fun (x268 : (Int × Unit)) => pureM (x267, x268))) fun (x269 : (Str × Int × Unit)) => pureM ((eP (eC eStr (eC eInt eU))) x269)) fun (x270 : PyData) => (Pz.bindM (Pz.bindM (pureM r119.2) fun (x263 : PyData) => (Pz.bindM (Pz.bindM (Pz.bindM (Pz.bindM (pureM ("lot" : Str)) fun (x258 : Str) => (Pz.bindM (Pz.bindM (pureM r119.1) fun (x256 : Int) => (Pz.bindM (pureM ()) fun (x257 : Unit) => pureM (x256, x257))) fun (x259 : (Int × Unit)) => pureM (x258, x259))) fun (x260 : (Str × Int × Unit)) => pureM ((eP (eC eStr (eC eInt eU))) x260)) fun (x261 : PyData) => (Pz.bindM (pureM ([] : List PyData)) fun (x262 : (List PyData)) => pureM (x261 :: x262))) fun (x264 : (List PyData)) => pureM (x263 :: x264))) fun (x271 : (List PyData)) => pureM (x270 :: x271))) fun (x276 : (List PyData)) => pureM (x275 :: x276))) fun (x302 : (List PyData)) => pureM (x301 :: x302)))) fun (x304 : (List PyData)) => optM (catO x303 x304))) fun (r255 : (List PyData)) => (Pz.bindM (Pz.bindM (pureM r255) fun (x341 : (List PyData)) => forO (fun (b306 : Unit) (y305 : PyData) => (Pz.bindM (Pz.bindM (Pz.bindM (pureM y305) fun (x308 : PyData) => optM (reprO (eD x308))) fun (x312 : Str) => (Pz.bindM (Pz.bindM (pureM r68) fun (x309 : (Int × Int × (List Int) × Unit)) => (Pz.bindM (pureM r71) fun (x310 : (List Int)) => (Pz.bindM (pureM y305) fun (x311 : PyData) => m__law_fault x309 x310 x311))) fun (x313 : PyData) => pureM (x312, x313))) fun (r307 : (Str × PyData)) => (Pz.bindM (Pz.bindM (Pz.bindM (Pz.bindM (Pz.bindM (pureM r68) fun (x314 : (Int × Int × (List Int) × Unit)) => (Pz.bindM (pureM r71) fun (x315 : (List Int)) => (Pz.bindM (pureM y305) fun (x316 : PyData) => m_judge_color x314 x315 x316))) fun (x317 : PyData) => optM (reprO (eD x317))) fun (x319 : Str) => (Pz.bindM (Pz.bindM (pureM r307.2) fun (x318 : PyData) => optM (reprO (eD x318))) fun (x320 : Str) => pureM (!decide (x319 = x320)))) fun (x324 : Bool) => if x324 then pureM true else (Pz.bindM (Pz.bindM (pureM y305) fun (x321 : PyData) => optM (reprO (eD x321))) fun (x322 : Str) => (Pz.bindM (pureM r307.1) fun (x323 : Str) => pureM (!decide (x322 = x323))))) fun (x325 : Bool) => if x325 then Pz.bindM (pureM false) (fun (x340 : Bool) => pureM (Out.rt x340)) else (Pz.bindM (Pz.bindM (Pz.bindM (pureM r307.2) fun (x326 : PyData) => pureM (isNon x326)) fun (x337 : Bool) => if x337 then (Pz.bindM (Pz.bindM (Pz.bindM (pureM y305) fun (x327 : PyData) => optM (asTup x327)) fun (x328 : (List PyData)) => (Pz.bindM (pureM (0 : Int)) fun (x329 : Int) => optM (atI x328 x329))) fun (x335 : PyData) => (Pz.bindM (Pz.bindM (Pz.bindM (pureM r95.2) fun (x330 : PyData) => optM (asTup x330)) fun (x331 : (List PyData)) => (Pz.bindM (pureM (0 : Int)) fun (x332 : Int) => optM (atI x331 x332))) fun (x336 : PyData) => optM ((eqZ (eD x335) (eD x336)).map (!·)))) else pureM false) fun (x338 : Bool) => if x338 then Pz.bindM (pureM false) (fun (x339 : Bool) => pureM (Out.rt x339)) else (pureM (Out.nx ())))))) x341 ()) fun o => caseO o (fun (r342 : Unit) => (Pz.bindM (Pz.bindM (Pz.bindM (smallM (Pz.bindM (Pz.bindM (pureM r68) fun (x346 : (Int × Int × (List Int) × Unit)) => pureM ((eP (eC eInt (eC eInt (eC (eT eInt) eU)))) x346)) fun (x347 : PyData) => (Pz.bindM (Pz.bindM (Pz.bindM (pureM r71) fun (x343 : (List Int)) => pureM ((eT eInt) x343)) fun (x344 : PyData) => (Pz.bindM (pureM ([] : List PyData)) fun (x345 : (List PyData)) => pureM (x344 :: x345))) fun (x348 : (List PyData)) => pureM (x347 :: x348)))) fun (x349 : (List PyData)) => optM (reprO ((eL eD) x349))) fun (x350 : Str) => (Pz.bindM (pureM r95.1) fun (x351 : Str) => pureM (!decide (x350 = x351)))) fun (x352 : Bool) => if x352 then Pz.bindM (pureM false) (fun (x353 : Bool) => pureM (Out.rt x353)) else (pureM (Out.nx ())))) (fun r => pureM (Out.rt r)))))))))))))))) PassesOwn.never rfl (i_range1 B.b_range e_int) (g1 3 eInt sc.nd) noow1 (.un (.eq (.eq (.un (.un (.un (.un (.un (.un (.un (.un (.un (.un (.un (.un (.un (.un (.un .nil)))))))))))))))))) (fun (b60 : Unit) (y59 : Int) => (s_step (Γ1 := fun (r61 : (Int × Int)) => [.un, .src, .fz ((eL eD) r1), .fz (eInt y59), .fz (eInt r61.1), .fz (eInt r61.2), .un, .un, .un, .un, .un, .un, .un, .un, .un, .un, .un, .un]) (q_par2 4 5 (e_cs1 1 (F__law_pick.mono (by decide)) hG hr C__law_pick.mg C__law_pick.kp C__law_pick.bd e_int) (e_add e_int (e_cs1 1 (F__law_pick.mono (by decide)) hG hr C__law_pick.mg C__law_pick.kp C__law_pick.bd e_int)) rfl sc.nd) (fun (r61 : (Int × Int)) => (s_step (Γ1 := fun (r68 : (Int × Int × (List Int) × Unit)) => [.un, .src, .fz ((eL eD) r1), .fz (eInt y59), .fz (eInt r61.1), .fz (eInt r61.2), .fz ((eP (eC eInt (eC eInt (eC (eT eInt) eU)))) r68), .un, .un, .un, .un, .un, .un, .un, .un, .un, .un, .un]) (q_set 6 (e_cs2 1 (F__law_pairs.mono (by decide)) hG hr C__law_pairs.mg C__law_pairs.kp C__law_pairs.bd (e_var 4 eInt r61.1) (e_var 5 eInt r61.2)) sc.nd) (fun (r68 : (Int × Int × (List Int) × Unit)) => (s_step (Γ1 := fun (r71 : (List Int)) => [.un, .src, .fz ((eL eD) r1), .fz (eInt y59), .fz (eInt r61.1), .fz (eInt r61.2), .fz ((eP (eC eInt (eC eInt (eC (eT eInt) eU)))) r68), .fz ((eT eInt) r71), .un, .un, .un, .un, .un, .un, .un, .un, .un, .un]) (q_set 7 (e_t1 (ea := (eL eInt)) (ec := (eT eInt)) (f := fun x => some x) call_tuple_of v_tupL B.b_tuple bt_tuple (f_e (f_lc (set := (st1 10 eInt)) (is := [10]) [("i", 10)] (fun (y73 : Int) => (pureM true)) (fun (y73 : Int) => (Pz.bindM (pureM (1 : Int)) fun (x91 : Int) => (Pz.bindM (Pz.bindM (smallM (Pz.bindM (pureM (0 : Int)) fun (x88 : Int) => (Pz.bindM (Pz.bindM (pureM (1 : Int)) fun (x86 : Int) => (Pz.bindM (Pz.bindM (pureM (2 : Int)) fun (x84 : Int) => (Pz.bindM (Pz.bindM (pureM (2 : Int)) fun (x82 : Int) => (Pz.bindM (Pz.bindM (pureM (2 : Int)) fun (x80 : Int) => (Pz.bindM (Pz.bindM (pureM (3 : Int)) fun (x78 : Int) => (Pz.bindM (Pz.bindM (pureM (3 : Int)) fun (x76 : Int) => (Pz.bindM (Pz.bindM (pureM (4 : Int)) fun (x74 : Int) => (Pz.bindM (pureM ([] : List Int)) fun (x75 : (List Int)) => pureM (x74 :: x75))) fun (x77 : (List Int)) => pureM (x76 :: x77))) fun (x79 : (List Int)) => pureM (x78 :: x79))) fun (x81 : (List Int)) => pureM (x80 :: x81))) fun (x83 : (List Int)) => pureM (x82 :: x83))) fun (x85 : (List Int)) => pureM (x84 :: x85))) fun (x87 : (List Int)) => pureM (x86 :: x87))) fun (x89 : (List Int)) => pureM (x88 :: x89)))) fun (x90 : (List Int)) => ofM x90) fun (x92 : Int) => pureM (x91 + x92)))) rfl sc.nd (i_range1 B.b_range (e_var 5 eInt r61.2)) (blkOk_by (N := N_law) (sc := (defScope s_law)) (by decide +kernel)) (fun _ _ _ _ _ => (g1 10 eInt sc.nd)) (fun _ _ _ _ _ (y73 : Int) => c_nil) (fun _ _ _ _ _ (y73 : Int) => (e_add e_int (e_cs1 1 ((F__law_of.L eInt).mono (by decide)) hG hr C__law_of.mg C__law_of.kp C__law_of.bd (f_e (f_list (l_cons e_int (l_cons e_int (l_cons e_int (l_cons e_int (l_cons e_int (l_cons e_int (l_cons e_int (l_cons e_int l_nil))))))))))))) noow1 sm1 (fun _ h => h) (noOw rfl)))) sc.nd) (fun (r71 : (List Int)) => (s_step (Γ1 := fun (r95 : (Str × PyData)) => [.un, .src, .fz ((eL eD) r1), .fz (eInt y59), .fz (eInt r61.1), .fz (eInt r61.2), .fz ((eP (eC eInt (eC eInt (eC (eT eInt) eU)))) r68), .fz ((eT eInt) r71), .fz (eStr r95.1), .fz (eD r95.2), .un, .un, .un, .un, .un, .un, .un, .un]) (q_par2 8 9 (e_repr (ea := (eL eD)) hr hG B.b_repr bt_repr (f_e (f_list (l_cons (e_enc (eb := eD) (fun x => (eP (eC eInt (eC eInt (eC (eT eInt) eU)))) x) (e_var 6 (eP (eC eInt (eC eInt (eC (eT eInt) eU)))) r68) (fun _ => rfl)) (l_cons (e_enc (eb := eD) (fun x => (eT eInt) x) (e_var 7 (eT eInt) r71) (fun _ => rfl)) l_nil))))) (e_c2 (F_color_paper.mono (by decide)) hG hr C_color_paper.mg C_color_paper.kp C_color_paper.bd (e_var 6 (eP (eC eInt (eC eInt (eC (eT eInt) eU)))) r68) (e_var 7 (eT eInt) r71)) rfl sc.nd) (fun (r95 : (Str × PyData)) => (s_ifret2 (Γb := (fun (b : Unit) => [.un, .src, .fz ((eL eD) r1), .un, .un, .un, .un, .un, .un, .un, .un, .un, .un, .un, .un, .un, .un, .un])) (w_t (w_or (t_neT (e_repr (ea := eD) hr hG B.b_repr bt_repr (e_var 9 eD r95.2)) (e_repr (ea := eD) hr hG B.b_repr bt_repr (e_c2 (F__law_told.mono (by decide)) hG hr C__law_told.mg C__law_told.kp C__law_told.bd (e_var 6 (eP (eC eInt (eC eInt (eC (eT eInt) eU)))) r68) (e_var 7 (eT eInt) r71)))) (w_or1 (t_notNd (e_c3 (F__law_fault.mono (by decide)) hG hr C__law_fault.mg C__law_fault.kp C__law_fault.bd (e_var 6 (eP (eC eInt (eC eInt (eC (eT eInt) eU)))) r68) (e_var 7 (eT eInt) r71) (e_var 9 eD r95.2)))))) (s_ret0 e_bool) (s_step (Γ1 := fun (r119 : (Int × PyData)) => [.un, .src, .fz ((eL eD) r1), .fz (eInt y59), .fz (eInt r61.1), .fz (eInt r61.2), .fz ((eP (eC eInt (eC eInt (eC (eT eInt) eU)))) r68), .fz ((eT eInt) r71), .fz (eStr r95.1), .fz (eD r95.2), .fz (eInt r119.1), .fz (eD r119.2), .un, .un, .un, .un, .un, .un]) (q_par2 10 11 (e_cs1 1 (F__law_pick.mono (by decide)) hG hr C__law_pick.mg C__law_pick.kp C__law_pick.bd (e_var 5 eInt r61.2)) (e_cs1 1 ((F__law_of.L eD).mono (by decide)) hG hr C__law_of.mg C__law_of.kp C__law_of.bd (e_var 2 (eL eD) r1)) rfl sc.nd) (fun (r119 : (Int × PyData)) => (s_step (Γ1 := fun (r124 : (List (List Int))) => [.un, .src, .fz ((eL eD) r1), .fz (eInt y59), .fz (eInt r61.1), .fz (eInt r61.2), .fz ((eP (eC eInt (eC eInt (eC (eT eInt) eU)))) r68), .fz ((eT eInt) r71), .fz (eStr r95.1), .fz (eD r95.2), .fz (eInt r119.1), .fz (eD r119.2), .fz ((eL (eT eInt)) r124), .un, .un, .un, .un, .un]) (q_set 12 (e_c2 (F__law_lots.mono (by decide)) hG hr C__law_lots.mg C__law_lots.kp C__law_lots.bd (e_var 4 eInt r61.1) (e_ixT (e_var 7 (eT eInt) r71) (e_var 10 eInt r119.1))) sc.nd) (fun (r124 : (List (List Int))) => (s_step (Γ1 := fun (r129 : (List Int)) => [.un, .src, .fz ((eL eD) r1), .fz (eInt y59), .fz (eInt r61.1), .fz (eInt r61.2), .fz ((eP (eC eInt (eC eInt (eC (eT eInt) eU)))) r68), .fz ((eT eInt) r71), .fz (eStr r95.1), .fz (eD r95.2), .fz (eInt r119.1), .fz (eD r119.2), .fz ((eL (eT eInt)) r124), .fz ((eT eInt) r129), .un, .un, .un, .un]) (q_set 13 (e_if (t_neP (n := 2) hr (Dc.lst (Dc.tup Dc.int)) (e_var 12 (eL (eT eInt)) r124) (f_e (f_list l_nil))) (e_cs1 1 ((F__law_of.L (eT eInt)).mono (by decide)) hG hr C__law_of.mg C__law_of.kp C__law_of.bd (e_var 12 (eL (eT eInt)) r124)) (e_tupl (l_cons e_int (l_cons e_int l_nil)))) sc.nd) (fun (r129 : (List Int)) => (s_step (Γ1 := fun (r143 : (List PyData)) => [.un, .src, .fz ((eL eD) r1), .fz (eInt y59), .fz (eInt r61.1), .fz (eInt r61.2), .fz ((eP (eC eInt (eC eInt (eC (eT eInt) eU)))) r68), .fz ((eT eInt) r71), .fz (eStr r95.1), .fz (eD r95.2), .fz (eInt r119.1), .fz (eD r119.2), .fz ((eL (eT eInt)) r124), .fz ((eT eInt) r129), .fz ((eL eD) r143), .un, .un, .un]) (q_set 14 (f_e (f_list (l_cons (e_var 9 eD r95.2) (l_cons (e_enc (eb := eD) (fun x => (eP (eC eStr (eC eInt (eC (eT eInt) eU)))) x) (e_tup (eC eStr (eC eInt (eC (eT eInt) eU))) (a_cons e_str (a_cons (e_var 10 eInt r119.1) (a_cons (e_var 13 (eT eInt) r129) a_nil))) (hl := fun _ => (by decide : 3 ≤ sizeLine))) (fun _ => rfl)) (l_cons (e_enc (eb := eD) (fun x => (eP (eC eStr eU)) x) (e_tup (eC eStr eU) (a_cons e_str a_nil) (hl := fun _ => (by decide : 1 ≤ sizeLine))) (fun _ => rfl)) (l_cons (e_enc (eb := eD) (fun x => (eP (eC eStr (eC eInt (eC (eT eInt) eU)))) x) (e_tup (eC eStr (eC eInt (eC (eT eInt) eU))) (a_cons e_str (a_cons (e_var 10 eInt r119.1) (a_cons (e_revT (e_var 13 (eT eInt) r129)) a_nil))) (hl := fun _ => (by decide : 3 ≤ sizeLine))) (fun _ => rfl)) (l_cons (e_enc (eb := eD) (fun x => (eP (eC eStr (eC eInt (eC (eT eInt) eU)))) x) (e_tup (eC eStr (eC eInt (eC (eT eInt) eU))) (a_cons e_str (a_cons (e_var 10 eInt r119.1) (a_cons (e_slT (e_var 13 (eT eInt) r129) (p_some e_int) p_none) a_nil))) (hl := fun _ => (by decide : 3 ≤ sizeLine))) (fun _ => rfl)) (l_cons (e_enc (eb := eD) (fun x => (eP (eC eStr (eC eD (eC (eT eInt) eU)))) x) (e_tup (eC eStr (eC eD (eC (eT eInt) eU))) (a_cons e_str (a_cons (e_var 11 eD r119.2) (a_cons (e_var 13 (eT eInt) r129) a_nil))) (hl := fun _ => (by decide : 3 ≤ sizeLine))) (fun _ => rfl)) l_nil)))))))) sc.nd) (fun (r143 : (List PyData)) => (s_step (Γ1 := fun (r192 : (List PyData)) => [.un, .src, .fz ((eL eD) r1), .fz (eInt y59), .fz (eInt r61.1), .fz (eInt r61.2), .fz ((eP (eC eInt (eC eInt (eC (eT eInt) eU)))) r68), .fz ((eT eInt) r71), .fz (eStr r95.1), .fz (eD r95.2), .fz (eInt r119.1), .fz (eD r119.2), .fz ((eL (eT eInt)) r124), .fz ((eT eInt) r129), .fz ((eL eD) r192), .un, .un, .un]) (q_set 14 (f_e (f_catL (e_var 14 (eL eD) r143) (f_e (f_list (l_cons (e_enc (eb := eD) (fun x => (eP (eC eStr (eC eInt (eC eD eU)))) x) (e_tup (eC eStr (eC eInt (eC eD eU))) (a_cons e_str (a_cons (e_var 10 eInt r119.1) (a_cons (e_var 11 eD r119.2) a_nil))) (hl := fun _ => (by decide : 3 ≤ sizeLine))) (fun _ => rfl)) (l_cons (e_enc (eb := eD) (fun x => (eP (eC eD (eC eInt (eC (eT eInt) eU)))) x) (e_tup (eC eD (eC eInt (eC (eT eInt) eU))) (a_cons (e_var 11 eD r119.2) (a_cons (e_var 10 eInt r119.1) (a_cons (e_var 13 (eT eInt) r129) a_nil))) (hl := fun _ => (by decide : 3 ≤ sizeLine))) (fun _ => rfl)) (l_cons (e_enc (eb := eD) (fun x => (eP (eC eStr (eC eInt (eC (eL eInt) eU)))) x) (e_tup (eC eStr (eC eInt (eC (eL eInt) eU))) (a_cons e_str (a_cons (e_var 10 eInt r119.1) (a_cons (f_e (f_t1 (ea := (eT eInt)) (ec := eInt) (f := fun x => some x) call_list_of v_listT B.b_list bt_list (e_var 13 (eT eInt) r129))) a_nil))) (hl := fun _ => (by decide : 3 ≤ sizeLine))) (fun _ => rfl)) (l_cons (e_enc (eb := eD) (fun x => (eP (eC eStr (eC eInt (eC (eT eInt) eU)))) x) (e_tup (eC eStr (eC eInt (eC (eT eInt) eU))) (a_cons e_str (a_cons (e_var 5 eInt r61.2) (a_cons (e_var 13 (eT eInt) r129) a_nil))) (hl := fun _ => (by decide : 3 ≤ sizeLine))) (fun _ => rfl)) (l_cons (e_enc (eb := eD) (fun x => (eT eD) x) (e_catT (e_dTup (e_var 9 eD r95.2)) (e_enc (eb := (eT eD)) (fun p : (Int × Unit) => [eInt p.1]) (e_tup (eC eInt eU) (a_cons e_int a_nil) (hl := fun _ => (by decide : 1 ≤ sizeLine))) (fun _ => rfl))) (fun _ => rfl)) l_nil))))))))) sc.nd) (fun (r192 : (List PyData)) => (s_step (Γ1 := fun (r243 : (List PyData)) => [.un, .src, .fz ((eL eD) r1), .fz (eInt y59), .fz (eInt r61.1), .fz (eInt r61.2), .fz ((eP (eC eInt (eC eInt (eC (eT eInt) eU)))) r68), .fz ((eT eInt) r71), .fz (eStr r95.1), .fz (eD r95.2), .fz (eInt r119.1), .fz (eD r119.2), .fz ((eL (eT eInt)) r124), .fz ((eT eInt) r129), .fz ((eL eD) r243), .un, .un, .un]) (q_set 14 (f_e (f_catL (e_var 14 (eL eD) r192) (f_e (f_list (l_cons (e_enc (eb := eD) (fun x => eNon x) e_non (fun _ => rfl)) (l_cons (e_enc (eb := eD) (fun x => (eP eU) x) (e_tup eU a_nil (hl := fun _ => (by decide : 0 ≤ sizeLine))) (fun _ => rfl)) (l_cons (e_enc (eb := eD) (fun x => eStr x) e_str (fun _ => rfl)) l_nil))))))) sc.nd) (fun (r243 : (List PyData)) => (s_step (Γ1 := fun (r255 : (List PyData)) => [.un, .src, .fz ((eL eD) r1), .fz (eInt y59), .fz (eInt r61.1), .fz (eInt r61.2), .fz ((eP (eC eInt (eC eInt (eC (eT eInt) eU)))) r68), .fz ((eT eInt) r71), .fz (eStr r95.1), .fz (eD r95.2), .fz (eInt r119.1), .fz (eD r119.2), .fz ((eL (eT eInt)) r124), .fz ((eT eInt) r129), .fz ((eL eD) r255), .un, .un, .un]) (q_set 14 (f_e (f_catL (e_var 14 (eL eD) r243) (f_e (f_list (l_cons (e_enc (eb := eD) (fun x => (eP (eC eStr (eC eInt (eC (eT eD) eU)))) x) (e_tup (eC eStr (eC eInt (eC (eT eD) eU))) (a_cons e_str (a_cons (e_var 10 eInt r119.1) (a_cons (e_catT (e_catT (e_enc (eb := (eT eD)) (List.map eInt) (e_slT (e_var 13 (eT eInt) r129) p_none (p_some e_int)) (fun x => by simp [eT, eD])) (e_enc (eb := (eT eD)) (fun p : (PyData × Unit) => [p.1]) (e_tup (eC eD eU) (a_cons (e_var 11 eD r119.2) a_nil) (hl := fun _ => (by decide : 1 ≤ sizeLine))) (fun _ => rfl))) (e_enc (eb := (eT eD)) (List.map eInt) (e_slT (e_var 13 (eT eInt) r129) (p_some e_int) p_none) (fun x => by simp [eT, eD]))) a_nil))) (hl := fun _ => (by decide : 3 ≤ sizeLine))) (fun _ => rfl)) (l_cons (e_enc (eb := eD) (fun x => (eL eD) x) (f_e (f_t1 (ea := (eT eD)) (ec := eD) (f := fun x => some x) call_list_of v_listT B.b_list bt_list (e_dTup (e_var 9 eD r95.2)))) (fun _ => rfl)) (l_cons (e_enc (eb := eD) (fun x => (eP (eC eStr (eC eInt eU))) x) (e_tup (eC eStr (eC eInt eU)) (a_cons e_str (a_cons e_int a_nil)) (hl := fun _ => (by decide : 2 ≤ sizeLine))) (fun _ => rfl)) (l_cons (e_var 11 eD r119.2) (l_cons (e_enc (eb := eD) (fun x => (eP (eC eStr (eC eInt eU))) x) (e_tup (eC eStr (eC eInt eU)) (a_cons e_str (a_cons (e_var 10 eInt r119.1) a_nil)) (hl := fun _ => (by decide : 2 ≤ sizeLine))) (fun _ => rfl)) l_nil))))))))) sc.nd) (fun (r255 : (List PyData)) => (s_step2 (er := eBool) (Γ1 := (fun (b : Unit) => [.un, .src, .fz ((eL eD) r1), .fz (eInt y59), .fz (eInt r61.1), .fz (eInt r61.2), .fz ((eP (eC eInt (eC eInt (eC (eT eInt) eU)))) r68), .fz ((eT eInt) r71), .fz (eStr r95.1), .fz (eD r95.2), .fz (eInt r119.1), .fz (eD r119.2), .fz ((eL (eT eInt)) r124), .fz ((eT eInt) r129), .fz ((eL eD) r255), .un, .un, .un])) (Γb := (fun (b : Unit) => [.un, .src, .fz ((eL eD) r1), .un, .un, .un, .un, .un, .un, .un, .un, .un, .un, .un, .un, .un, .un, .un])) (q_forO (er := eBool) (set := (st1 15 eD)) (is := [15]) (fun (b : Unit) => [.un, .src, .fz ((eL eD) r1), .fz (eInt y59), .fz (eInt r61.1), .fz (eInt r61.2), .fz ((eP (eC eInt (eC eInt (eC (eT eInt) eU)))) r68), .fz ((eT eInt) r71), .fz (eStr r95.1), .fz (eD r95.2), .fz (eInt r119.1), .fz (eD r119.2), .fz ((eL (eT eInt)) r124), .fz ((eT eInt) r129), .fz ((eL eD) r255), .un, .un, .un]) () (fun (b306 : Unit) (y305 : PyData) => (Pz.bindM (Pz.bindM (Pz.bindM (pureM y305) fun (x308 : PyData) => optM (reprO (eD x308))) fun (x312 : Str) => (Pz.bindM (Pz.bindM (pureM r68) fun (x309 : (Int × Int × (List Int) × Unit)) => (Pz.bindM (pureM r71) fun (x310 : (List Int)) => (Pz.bindM (pureM y305) fun (x311 : PyData) => m__law_fault x309 x310 x311))) fun (x313 : PyData) => pureM (x312, x313))) fun (r307 : (Str × PyData)) => (Pz.bindM (Pz.bindM (Pz.bindM (Pz.bindM (Pz.bindM (pureM r68) fun (x314 : (Int × Int × (List Int) × Unit)) => (Pz.bindM (pureM r71) fun (x315 : (List Int)) => (Pz.bindM (pureM y305) fun (x316 : PyData) => m_judge_color x314 x315 x316))) fun (x317 : PyData) => optM (reprO (eD x317))) fun (x319 : Str) => (Pz.bindM (Pz.bindM (pureM r307.2) fun (x318 : PyData) => optM (reprO (eD x318))) fun (x320 : Str) => pureM (!decide (x319 = x320)))) fun (x324 : Bool) => if x324 then pureM true else (Pz.bindM (Pz.bindM (pureM y305) fun (x321 : PyData) => optM (reprO (eD x321))) fun (x322 : Str) => (Pz.bindM (pureM r307.1) fun (x323 : Str) => pureM (!decide (x322 = x323))))) fun (x325 : Bool) => if x325 then Pz.bindM (pureM false) (fun (x340 : Bool) => pureM (Out.rt x340)) else (Pz.bindM (Pz.bindM (Pz.bindM (pureM r307.2) fun (x326 : PyData) => pureM (isNon x326)) fun (x337 : Bool) => if x337 then (Pz.bindM (Pz.bindM (Pz.bindM (pureM y305) fun (x327 : PyData) => optM (asTup x327)) fun (x328 : (List PyData)) => (Pz.bindM (pureM (0 : Int)) fun (x329 : Int) => optM (atI x328 x329))) fun (x335 : PyData) => (Pz.bindM (Pz.bindM (Pz.bindM (pureM r95.2) fun (x330 : PyData) => optM (asTup x330)) fun (x331 : (List PyData)) => (Pz.bindM (pureM (0 : Int)) fun (x332 : Int) => optM (atI x331 x332))) fun (x336 : PyData) => optM ((eqZ (eD x335) (eD x336)).map (!·)))) else pureM false) fun (x338 : Bool) => if x338 then Pz.bindM (pureM false) (fun (x339 : Bool) => pureM (Out.rt x339)) else (pureM (Out.nx ())))))) PassesOwn.never rfl (i_list (e_var 14 (eL eD) r255)) (g1 15 eD sc.nd) noow1 (.un (.eq (.eq (.eq (.eq (.eq (.eq (.eq (.eq (.eq (.eq (.eq (.eq (.eq (.eq (.un (.un (.un .nil)))))))))))))))))) (fun (b306 : Unit) (y305 : PyData) => (s_step (Γ1 := fun (r307 : (Str × PyData)) => [.un, .src, .fz ((eL eD) r1), .fz (eInt y59), .fz (eInt r61.1), .fz (eInt r61.2), .fz ((eP (eC eInt (eC eInt (eC (eT eInt) eU)))) r68), .fz ((eT eInt) r71), .fz (eStr r95.1), .fz (eD r95.2), .fz (eInt r119.1), .fz (eD r119.2), .fz ((eL (eT eInt)) r124), .fz ((eT eInt) r129), .fz ((eL eD) r255), .fz (eD y305), .fz (eStr r307.1), .fz (eD r307.2)]) (q_par2 16 17 (e_repr (ea := eD) hr hG B.b_repr bt_repr (e_var 15 eD y305)) (e_c3 (F__law_fault.mono (by decide)) hG hr C__law_fault.mg C__law_fault.kp C__law_fault.bd (e_var 6 (eP (eC eInt (eC eInt (eC (eT eInt) eU)))) r68) (e_var 7 (eT eInt) r71) (e_var 15 eD y305)) rfl sc.nd) (fun (r307 : (Str × PyData)) => (s_ifret2 (Γb := (fun (b : Unit) => [.un, .src, .fz ((eL eD) r1), .fz (eInt y59), .fz (eInt r61.1), .fz (eInt r61.2), .fz ((eP (eC eInt (eC eInt (eC (eT eInt) eU)))) r68), .fz ((eT eInt) r71), .fz (eStr r95.1), .fz (eD r95.2), .fz (eInt r119.1), .fz (eD r119.2), .fz ((eL (eT eInt)) r124), .fz ((eT eInt) r129), .fz ((eL eD) r255), .un, .un, .un])) (w_t (w_or (t_neT (e_repr (ea := eD) hr hG B.b_repr bt_repr (e_c3 (F_judge_color.mono (by decide)) hG hr C_judge_color.mg C_judge_color.kp C_judge_color.bd (e_var 6 (eP (eC eInt (eC eInt (eC (eT eInt) eU)))) r68) (e_var 7 (eT eInt) r71) (e_var 15 eD y305))) (e_repr (ea := eD) hr hG B.b_repr bt_repr (e_var 17 eD r307.2))) (w_or1 (t_neT (e_repr (ea := eD) hr hG B.b_repr bt_repr (e_var 15 eD y305)) (e_var 16 eStr r307.1))))) (s_ret0 e_bool) (s_ifret2 (Γb := (fun (b : Unit) => [.un, .src, .fz ((eL eD) r1), .fz (eInt y59), .fz (eInt r61.1), .fz (eInt r61.2), .fz ((eP (eC eInt (eC eInt (eC (eT eInt) eU)))) r68), .fz ((eT eInt) r71), .fz (eStr r95.1), .fz (eD r95.2), .fz (eInt r119.1), .fz (eD r119.2), .fz ((eL (eT eInt)) r124), .fz ((eT eInt) r129), .fz ((eL eD) r255), .un, .un, .un])) (w_t (w_and (t_isNd (e_var 17 eD r307.2)) (w_and1 (t_neZ hr (e_ixT (e_dTup (e_var 15 eD y305)) e_int) (e_ixT (e_dTup (e_var 9 eD r95.2)) e_int))))) (s_ret0 e_bool) (s_nilO (Γb := (fun (b : Unit) => [.un, .src, .fz ((eL eD) r1), .fz (eInt y59), .fz (eInt r61.1), .fz (eInt r61.2), .fz ((eP (eC eInt (eC eInt (eC (eT eInt) eU)))) r68), .fz ((eT eInt) r71), .fz (eStr r95.1), .fz (eD r95.2), .fz (eInt r119.1), .fz (eD r119.2), .fz ((eL (eT eInt)) r124), .fz ((eT eInt) r129), .fz ((eL eD) r255), .un, .un, .un])) () (.un (.eq (.eq (.eq (.eq (.eq (.eq (.eq (.eq (.eq (.eq (.eq (.eq (.eq (.eq (.un (.un (.un .nil))))))))))))))))))))))))) (fun (r342 : Unit) => (s_ifret2 (Γb := (fun (b : Unit) => [.un, .src, .fz ((eL eD) r1), .un, .un, .un, .un, .un, .un, .un, .un, .un, .un, .un, .un, .un, .un, .un])) (t_neT (e_repr (ea := (eL eD)) hr hG B.b_repr bt_repr (f_e (f_list (l_cons (e_enc (eb := eD) (fun x => (eP (eC eInt (eC eInt (eC (eT eInt) eU)))) x) (e_var 6 (eP (eC eInt (eC eInt (eC (eT eInt) eU)))) r68) (fun _ => rfl)) (l_cons (e_enc (eb := eD) (fun x => (eT eInt) x) (e_var 7 (eT eInt) r71) (fun _ => rfl)) l_nil))))) (e_var 8 eStr r95.1)) (s_ret0 e_bool) (s_nilO (Γb := (fun (b : Unit) => [.un, .src, .fz ((eL eD) r1), .un, .un, .un, .un, .un, .un, .un, .un, .un, .un, .un, .un, .un, .un, .un])) () (.un (.eq (.eq (.un (.un (.un (.un (.un (.un (.un (.un (.un (.un (.un (.un (.un (.un (.un .nil))))))))))))))))))))))))))))))))))))))))))))))) (fun (r356 : Unit) => (s_ret0 (e_eqZ hr (e_c2 (F_color_paper.mono (by decide)) hG hr C_color_paper.mg C_color_paper.kp C_color_paper.bd (e_tup (eC eInt (eC eInt (eC (eT eInt) eU))) (a_cons e_int (a_cons e_int (a_cons (e_tupl (l_cons e_int l_nil)) a_nil))) (hl := fun _ => (by decide : 3 ≤ sizeLine))) (e_tupl (l_cons e_int l_nil))) (e_tup (eC eStr eU) (a_cons e_str a_nil) (hl := fun _ => (by decide : 1 ≤ sizeLine)))))))))

end
end Lw

namespace Lw
open PySem PySem.Spec PyProof.Rows L2 Pz
theorem forM_append {β ι : Type} (f : β → ι → M β) : ∀ (xs ys : List ι) (b : β), forM' f (xs ++ ys) b = Pz.bindM (forM' f xs b) fun c => forM' f ys c
  | [], ys, b => rfl
  | x :: xs, ys, b => by
    rw [List.cons_append, forM', forM', Pz.bind_assoc]
    congr 1
    funext c
    exact forM_append f xs ys c
theorem irange_succ (m : Nat) : irange 0 ((m : Int) + 1) = irange 0 m ++ [(m : Int)] := by
  unfold irange
  rw [show ((m : Int) + 1 - 0).toNat = m + 1 by omega, show ((m : Int) - 0).toNat = m by omega, List.range_succ, List.map_append]
  simp
/-- the lots of at most k of m points, as the law makes them -/
def lawF (k : Int) : Nat → List (List Int)
  | 0 => [[]]
  | m + 1 => lawF k m ++ ((lawF k m).filter fun l => decide ((l.length : Int) < k)).map fun l => l ++ [(m : Int)]
theorem lawF_len (k : Int) : ∀ m : Nat, (lawF k m).length ≤ 2 ^ m
  | 0 => by simp [lawF]
  | m + 1 => by
    have ih := lawF_len k m
    have := List.length_filter_le (fun l : List Int => decide ((l.length : Int) < k)) (lawF k m)
    simp only [lawF, List.length_append, List.length_map, Nat.pow_succ]
    omega
theorem lawF_mem {k : Int} (hk : 0 ≤ k) : ∀ {m : Nat} {l : List Int}, l ∈ lawF k m ↔ Lot m l ∧ (l.length : Int) ≤ k
  | 0, l => by
    simp only [lawF, List.mem_singleton]
    constructor
    · rintro rfl; exact ⟨⟨.nil, by simp⟩, by simpa using hk⟩
    · rintro ⟨h, _⟩
      cases l with
      | nil => rfl
      | cons x r => have := h.2 x (by simp); omega
  | m + 1, l => by
    simp only [lawF, List.mem_append, List.mem_map, List.mem_filter, decide_eq_true_eq]
    constructor
    · rintro (h | ⟨q, ⟨h, hq⟩, rfl⟩)
      · obtain ⟨h1, h2⟩ := (lawF_mem hk).mp h
        exact ⟨⟨h1.1, fun x hx => by have := h1.2 x hx; omega⟩, h2⟩
      · obtain ⟨h1, h2⟩ := (lawF_mem hk).mp h
        refine ⟨⟨List.pairwise_append.mpr ⟨h1.1, by simp, fun x hx y hy => ?_⟩, fun x hx => ?_⟩, by simp; omega⟩
        · rw [List.mem_singleton] at hy; have := h1.2 x hx; omega
        · rcases List.mem_append.mp hx with hx | hx
          · have := h1.2 x hx; omega
          · rw [List.mem_singleton] at hx; omega
    · rintro ⟨h, hl⟩
      rcases List.eq_nil_or_concat l with rfl | ⟨q, b, rfl⟩
      · exact .inl ((lawF_mem hk).mpr ⟨⟨.nil, by simp⟩, by simpa using hk⟩)
      · rw [List.concat_eq_append] at *
        obtain ⟨hq, h1, h2⟩ := lot_snoc.mp h
        by_cases hb : b = m
        · refine .inr ⟨q, ⟨(lawF_mem hk).mpr ⟨⟨hq.1, fun x hx => ?_⟩, by simp at hl; omega⟩, by simp at hl; omega⟩, by rw [hb]⟩
          have := (lot_next hq).2 x hx
          have := (hq.2 x hx).1
          omega
        · refine .inl ((lawF_mem hk).mpr ⟨⟨h.1, fun x hx => ?_⟩, hl⟩)
          have h3 := h.2 x hx
          rcases List.mem_append.mp hx with hx | hx
          · have := (lot_next hq).2 x hx; omega
          · rw [List.mem_singleton] at hx; omega
theorem lawF_nodup {k : Int} (hk : 0 ≤ k) : ∀ m : Nat, (lawF k m).Nodup
  | 0 => by simp [lawF]
  | m + 1 => by
    unfold lawF
    rw [List.nodup_append]
    refine ⟨lawF_nodup hk m, ?_, fun a ha b hb e => ?_⟩
    · have h := (lawF_nodup hk m).filter (fun l : List Int => decide ((l.length : Int) < k))
      exact List.Pairwise.map _ (fun a b hab e => hab (List.append_cancel_right e)) h
    · obtain ⟨q, _, rfl⟩ := List.mem_map.mp hb
      subst e
      have := (((lawF_mem hk).mp ha).1).2 m (by simp)
      omega
theorem lot_le {n : Int} : ∀ (m : Nat) {l : List Int}, l.length = m → Lot n l → (l.length : Int) ≤ nextL l
  | 0, l, e, _ => by rw [List.eq_nil_of_length_eq_zero e]; decide
  | m + 1, l, e, h => by
    rcases List.eq_nil_or_concat l with rfl | ⟨q, b, rfl⟩
    · simp at e
    · rw [List.concat_eq_append] at *
      obtain ⟨hq, h1, _⟩ := lot_snoc.mp h
      have ih := lot_le m (by simpa using e) hq
      rw [nextL_snoc]
      simp
      omega
theorem lot_len {n : Int} {l : List Int} (h : Lot n l) (h0 : 0 ≤ n) : (l.length : Int) ≤ n := by
  have h1 := lot_le l.length rfl h
  rcases List.eq_nil_or_concat l with rfl | ⟨q, b, rfl⟩
  · simpa using h0
  · rw [List.concat_eq_append] at *
    have := (lot_snoc.mp h).2.2
    rw [nextL_snoc] at h1
    omega
theorem p_lots {n k : Int} (h0 : 0 ≤ n) (h9 : n ≤ 10) (hk : 1 ≤ k) : m__law_lots n k = pureM (lotsL n k.toNat) := by
  unfold m__law_lots
  simp only [bp, bind_ret, optM_some, Pz.bind_assoc]
  rw [smallM_pure (xs := ([] : List Int)) (by simp)]
  simp only [bp]
  rw [smallM_pure (xs := [([] : List Int)]) (by simp [sizeLine]), bp, rangeM_sm (lo := 0) (by omega) (by omega) (by omega) (by omega), bp]
  obtain ⟨m, rfl⟩ : ∃ m : Nat, n = m := ⟨n.toNat, by omega⟩
  have step : ∀ q : Nat, q ≤ m → forM' (fun (b6 : List (List Int)) (y5 : Int) => Pz.bindM (compM (fun y8 : List Int => pureM (decide ((y8.length : Int) < k))) (fun x15 => optM (catO x15 [y5])) b6) fun x19 => optM (catO b6 x19)) (irange 0 q) [[]] = pureM (lawF k q) := by
    intro q
    induction q with
    | zero => intro _; rfl
    | succ q ih =>
      intro hq
      have hs : ((q + 1 : Nat) : Int) = (q : Int) + 1 := by omega
      rw [hs, irange_succ, forM_append, ih (by omega), bp]
      simp only [forM', bind_ret]
      have hlen : (lawF k q).length ≤ 1024 := Nat.le_trans (lawF_len k q) (by
        have : 2 ^ q ≤ 2 ^ 10 := Nat.pow_le_pow_right (by decide) (by omega)
        omega)
      rw [compM_pure (fun l : List Int => decide ((l.length : Int) < k)) (fun l => l ++ [(q : Int)]) (fun _ _ => rfl) fun l hl _ => ?_]
      · rw [bp, catO_ok ?_, optM_some]
        · rfl
        · rw [List.length_map]
          have := List.length_filter_le (fun l : List Int => decide ((l.length : Int) < k)) (lawF k q)
          unfold sizeLine; omega
      · have hl2 : l.length ≤ q := by
          have hL := ((lawF_mem (by omega : 0 ≤ k)).mp hl).1
          have := lot_len hL (by omega)
          omega
        rw [catO_ok (by simp [sizeLine]; omega), optM_some]
  rw [step m (Nat.le_refl m), bp, compM_pure (fun l : List Int => decide ((l.length : Int) = k)) (fun l => l) (fun _ _ => rfl) fun _ _ _ => rfl, bp, List.map_id']
  have hmem : ∀ l, l ∈ (lawF k m).filter (fun l : List Int => decide ((l.length : Int) = k)) ↔ Lot m l ∧ l.length = k.toNat := fun l => by
    rw [List.mem_filter, lawF_mem (by omega : 0 ≤ k), decide_eq_true_eq]
    constructor
    · rintro ⟨⟨h1, _⟩, h2⟩; exact ⟨h1, by omega⟩
    · rintro ⟨h1, h2⟩; exact ⟨⟨h1, by omega⟩, by omega⟩
  have hok : ((lawF k m).filter (fun l : List Int => decide ((l.length : Int) = k))).all (fun r => !r.isEmpty) = true := by
    rw [List.all_eq_true]
    intro l hl
    have := (hmem l).mp hl
    cases l with
    | nil => simp at this; omega
    | cons _ _ => rfl
  unfold srtO
  rw [if_pos hok, optM_some, srt_lots ((lawF_nodup (by omega) m).filter _) hmem]
end Lw

namespace Lw
open PySem PySem.Spec PyProof.Rows L2 Pz
/-- a drawn colored pairs: n points, c colors, a color for each pair -/
structure Prs (p : Int × Int × List Int × Unit) : Prop where
  n0 : 0 ≤ p.1
  n9 : p.1 ≤ 10
  len : (p.2.2.1.length : Int) = p.1 * (p.1 - 1) / 2
def colP (p : Int × Int × List Int × Unit) (a b : Int) : Int := (atI p.2.2.1 ((max a b * (max a b - 1)) / 2 + min a b)).getD 0
theorem p_color {p : Int × Int × List Int × Unit} (hp : Prs p) {a b : Int} (ha : 0 ≤ a ∧ a < p.1) (hb : 0 ≤ b ∧ b < p.1) (hab : a ≠ b) : m_color_of_pair p a b = pureM (colP p a b) := by
  unfold m_color_of_pair
  simp only [bp, bind_ret, optM_some, Pz.bind_assoc]
  have hm : 1 ≤ max a b ∧ max a b < p.1 ∧ 0 ≤ min a b ∧ min a b < max a b := by omega
  have h10 := hp.n9
  rw [mulO_ok (by omega), optM_some, bp, divO_ok (by decide), optM_some, bp, Int.fdiv_eq_ediv_of_nonneg _ (by decide)]
  have hlt : max a b * (max a b - 1) / 2 + min a b < p.2.2.1.length := by
    rw [hp.len]
    generalize max a b = h at hm
    generalize min a b = l at hm
    generalize p.1 = n at hm h10
    have hn : n = 0 ∨ n = 1 ∨ n = 2 ∨ n = 3 ∨ n = 4 ∨ n = 5 ∨ n = 6 ∨ n = 7 ∨ n = 8 ∨ n = 9 ∨ n = 10 := by omega
    have hh : h = 1 ∨ h = 2 ∨ h = 3 ∨ h = 4 ∨ h = 5 ∨ h = 6 ∨ h = 7 ∨ h = 8 ∨ h = 9 := by omega
    rcases hn with rfl | rfl | rfl | rfl | rfl | rfl | rfl | rfl | rfl | rfl | rfl <;> rcases hh with rfl | rfl | rfl | rfl | rfl | rfl | rfl | rfl | rfl <;> omega
  have h0 : 0 ≤ max a b * (max a b - 1) / 2 := Int.ediv_nonneg (Int.mul_nonneg (by omega) (by omega)) (by decide)
  obtain ⟨x, e, _⟩ := atI_ok (xs := p.2.2.1) (i := max a b * (max a b - 1) / 2 + min a b) (by omega) hlt
  unfold colP
  rw [e, optM_some]; rfl
theorem p_lcolor {p : Int × Int × List Int × Unit} (hp : Prs p) {a b : Int} (ha : 0 ≤ a ∧ a < p.1) (hb : 0 ≤ b ∧ b < p.1) (hab : a ≠ b) : m__law_color p a b = pureM (colP p a b) := p_color hp ha hb hab
/-! ### lots of one color -/
def oneR (p : Int × Int × List Int × Unit) (c : Int) : List Int → Bool
  | [] => true
  | b :: r => oneR p c r && r.all fun a => decide (colP p a b = c)
def oneP (p : Int × Int × List Int × Unit) (c : Int) (lot : List Int) : Bool := oneR p c lot.reverse
theorem oneP_snoc (p : Int × Int × List Int × Unit) (c : Int) (l : List Int) (b : Int) : oneP p c (l ++ [b]) = (oneP p c l && l.all fun a => decide (colP p a b = c)) := by
  unfold oneP
  rw [List.reverse_append, List.reverse_singleton, List.singleton_append, oneR, List.all_reverse]
def nextOne (p : Int × Int × List Int × Unit) (c : Int) (lots : List (List Int)) : List (List Int) :=
  lots.flatMap fun l => ((irange (nextL l) p.1).filter fun b => l.all fun a => decide (colP p a b = c)).map fun b => l ++ [b]
theorem filter_flatMap' {α β : Type} (q : β → Bool) (f : α → List β) : ∀ xs : List α, (xs.flatMap f).filter q = xs.flatMap fun x => (f x).filter q
  | [] => rfl
  | x :: xs => by rw [List.flatMap_cons, List.filter_append, filter_flatMap' q f xs, List.flatMap_cons]
theorem flatMap_filter' {α β : Type} (q : α → Bool) (f : α → List β) : ∀ xs : List α, (xs.filter q).flatMap f = xs.flatMap fun x => if q x then f x else []
  | [] => rfl
  | x :: xs => by
    cases h : q x with
    | true => rw [List.filter_cons_of_pos h, List.flatMap_cons, List.flatMap_cons, h, flatMap_filter' q f xs]; rfl
    | false => rw [List.filter_cons_of_neg (by rw [h]; simp), List.flatMap_cons, h, flatMap_filter' q f xs]; rfl
theorem next_one (p : Int × Int × List Int × Unit) (c : Int) (k : Nat) : (lotsL p.1 (k + 1)).filter (oneP p c) = nextOne p c ((lotsL p.1 k).filter (oneP p c)) := by
  unfold nextOne
  rw [lotsL, filter_flatMap', flatMap_filter']
  congr 1
  funext l
  rw [List.filter_map]
  cases h : oneP p c l with
  | true =>
    simp only [if_true]
    congr 1
    apply List.filter_congr
    intro b _
    simp only [Function.comp, oneP_snoc, h, Bool.true_and]
  | false =>
    simp only [Bool.false_eq_true, if_false]
    rw [List.map_eq_nil_iff, List.filter_eq_nil_iff]
    intro b _
    simp only [Function.comp, oneP_snoc, h, Bool.false_and]
    simp
end Lw

namespace Lw
open PySem PySem.Spec PyProof.Rows L2 Pz
theorem atI_lastq {α : Type} (xs : List α) (x : α) : atI (xs ++ [x]) (-1) = some x := by
  unfold atI L2.ixN
  rw [if_neg (by omega), List.length_append, List.length_singleton, if_pos (by omega), show (-1 + ((xs.length + 1 : Nat) : Int)).toNat = xs.length by omega]
  simp
theorem next_read (l : List Int) : (if (!decide (l = [])) = true then Pz.bindM (optM (atI l (-1))) fun x => pureM (x + 1) else pureM 0) = pureM (nextL l) := by
  rcases List.eq_nil_or_concat l with rfl | ⟨q, b, rfl⟩
  · rfl
  · rw [List.concat_eq_append, nextL_snoc]
    simp [atI_lastq, bp]
theorem filt_map {α β : Type} (q : α → Bool) (f : α → β) : ∀ xs : List α, (xs.flatMap fun x => if q x then [f x] else []) = (xs.filter q).map f
  | [] => rfl
  | x :: xs => by
    rw [List.flatMap_cons, filt_map q f xs]
    cases h : q x <;> simp [h]
theorem p_longer {p : Int × Int × List Int × Unit} (hp : Prs p) (c : Int) {lots : List (List Int)} (hl : ∀ l ∈ lots, Lot p.1 l) (hn : (nextOne p c lots).length ≤ 16777216) : m_longer_one_colored p lots c = pureM (nextOne p c lots) := by
  have h10 := hp.n9
  have h0 := hp.n0
  unfold m_longer_one_colored
  simp only [bp, bind_ret, optM_some, Pz.bind_assoc]
  rw [smallM_pure (by simp), bp, forM_acc (fun l => ((irange (nextL l) p.1).filter fun b => l.all fun a => decide (colP p a b = c)).map fun b => l ++ [b]) 16777216 (fun l hm b hb => ?_) (by rw [List.length_nil, Nat.zero_add]; exact hn)]
  · rfl
  · have hL := hl l hm
    have hx := lot_next hL
    rw [smallM_pure (xs := ([] : List Int)) (by simp)]
    simp only [bp]
    rw [next_read, bp]
    have hxn : nextL l ≤ 1000000 := by
      rcases List.eq_nil_or_concat l with rfl | ⟨q, b, rfl⟩
      · decide
      · rw [List.concat_eq_append] at hL ⊢
        rw [nextL_snoc]
        have := (lot_snoc.mp hL).2.2
        omega
    rw [rangeM_sm (by omega) hxn (by omega) (by omega), bp]
    rw [← filt_map] at hb ⊢
    refine forM_acc _ 16777216 (fun x hxm d hd => ?_) hb
    rw [mem_irange] at hxm
    rw [compM_map (fun a => decide (colP p a x = c)) fun a ha => ?_]
    · rw [bp, List.all_map]
      show (if (l.all fun a => decide (colP p a x = c)) = true then _ else _) = _
      cases hq : l.all fun a => decide (colP p a x = c) with
      | false => simp
      | true =>
        rw [hq] at hd
        simp only [if_true, List.length_singleton] at hd ⊢
        have hll := lot_len hL h0
        rw [smallM_pure (by simp [sizeLine]; omega), bp, appM_ok (by unfold sizeLine; omega)]
    · have h1 := hL.2 a ha
      have h2 := hx.2 a ha
      rw [p_color hp h1 (by omega) (by omega), bp]
theorem lots_len {n : Int} (h10 : n ≤ 10) : ∀ k : Nat, (lotsL n k).length ≤ 10 ^ k
  | 0 => by simp [lotsL]
  | k + 1 => by
    have ih := lots_len h10 k
    have : (lotsL n (k + 1)).length ≤ (lotsL n k).length * 10 := by
      have aux : ∀ (xs : List (List Int)), (∀ l ∈ xs, Lot n l) → (xs.flatMap fun l => (irange (nextL l) n).map fun b => l ++ [b]).length ≤ xs.length * 10 := by
        intro xs
        induction xs with
        | nil => intro _; simp
        | cons l xs ih2 =>
          intro hx
          have h1 := ih2 fun q hq => hx q (List.mem_cons_of_mem _ hq)
          have h2 := (lot_next (hx l List.mem_cons_self)).1
          simp only [List.flatMap_cons, List.length_append, List.length_map, length_irange, List.length_cons]
          omega
      exact aux _ fun l hl => (mem_lotsL.mp hl).1
    rw [Nat.pow_succ]
    omega
theorem p_onelot {p : Int × Int × List Int × Unit} (hp : Prs p) (c : Int) {k : Int} (h0 : 0 ≤ k) (h6 : k ≤ 6) : m_one_colored_lot p k c = pureM ((lotsL p.1 k.toNat).filter (oneP p c)).head? := by
  have h10 := hp.n9
  unfold m_one_colored_lot
  simp only [bp, bind_ret, optM_some, Pz.bind_assoc]
  rw [smallM_pure (xs := ([] : List Int)) (by simp)]
  simp only [bp]
  rw [smallM_pure (xs := [([] : List Int)]) (by simp [sizeLine]), bp, rangeM_sm (lo := 0) (by omega) (by omega) (by omega) (by omega), bp]
  obtain ⟨m, rfl⟩ : ∃ m : Nat, k = m := ⟨k.toNat, by omega⟩
  have step : ∀ q : Nat, q ≤ m → forM' (fun (b6 : List (List Int)) (_ : Int) => m_longer_one_colored p b6 c) (irange 0 q) [[]] = pureM ((lotsL p.1 q).filter (oneP p c)) := by
    intro q
    induction q with
    | zero => intro _; rfl
    | succ q ih =>
      intro hq
      have hs : ((q + 1 : Nat) : Int) = (q : Int) + 1 := by omega
      rw [hs, irange_succ, forM_append, ih (by omega), bp]
      simp only [forM', bind_ret]
      have hb : (nextOne p c ((lotsL p.1 q).filter (oneP p c))).length ≤ 16777216 := by
        rw [← next_one]
        have h1 := List.length_filter_le (oneP p c) (lotsL p.1 (q + 1))
        have h2 := lots_len h10 (q + 1)
        have h3 : 10 ^ (q + 1) ≤ 10 ^ 6 := Nat.pow_le_pow_right (by decide) (by omega)
        omega
      rw [p_longer hp c (fun l hl => (mem_lotsL.mp (List.mem_filter.mp hl).1).1) hb, next_one]
  rw [step m (Nat.le_refl m), bp, smallM_pure (xs := []) (by simp), bp]
  rw [show (m : Int).toNat = m by omega]
  cases hf : (lotsL p.1 m).filter (oneP p c) with
  | nil => rfl
  | cons l r =>
    simp only [reduceCtorEq, decide_false, Bool.not_false, if_true, List.head?_cons]
    rw [show atI (l :: r) 0 = some l from Pz.atI_nat (xs := l :: r) (i := 0) (Nat.succ_pos _), optM_some, bp]
end Lw

namespace Lw
open PySem PySem.Spec PyProof.Rows L2 Pz
theorem cut_to {α : Type} (xs : List α) {n : Int} (h : 0 ≤ n) : cutL xs none (some n) = xs.take n.toNat := by
  unfold cutL HT.sIx
  dsimp only
  rw [if_neg (by omega), List.drop_zero, Nat.sub_zero, ← List.take_take, List.take_length]
theorem enumF_snoc {α : Type} (b : α) : ∀ (k : Nat) (xs : List α), enumF k (xs ++ [b]) = enumF k xs ++ [(((k + xs.length : Nat) : Int), b, ())]
  | k, [] => by simp [enumF]
  | k, x :: xs => by
    rw [List.cons_append, enumF, enumF_snoc b (k + 1) xs, enumF, List.cons_append]
    simp only [List.length_cons]
    rw [show k + 1 + xs.length = k + (xs.length + 1) by omega]
def badP (p : Int × Int × List Int × Unit) (c : Int) (lot : List Int) (q : Int × Int × Unit) : Bool := !((lot.take q.1.toNat).all fun a => decide (colP p a q.2.1 = c))
theorem enum_lt {α : Type} {xs : List α} {q : Int × α × Unit} (h : q ∈ enumL xs) : 0 ≤ q.1 ∧ q.1 < xs.length ∧ xs[q.1.toNat]? = some q.2.1 := by
  obtain ⟨i, hi⟩ := List.mem_iff_getElem?.mp h
  rw [enumL_get] at hi
  obtain ⟨x, hx, e⟩ := Option.map_eq_some_iff.mp hi
  have h1 := (List.getElem?_eq_some_iff.mp hx).1
  subst e
  exact ⟨Int.natCast_nonneg i, by show (i : Int) < _; omega, by simpa using hx⟩
theorem one_bad (p : Int × Int × List Int × Unit) (c : Int) : ∀ (m : Nat) (lot : List Int), lot.length = m → ((enumL lot).find? (badP p c lot)).isNone = oneP p c lot
  | 0, lot, e => by rw [List.eq_nil_of_length_eq_zero e]; rfl
  | m + 1, lot, e => by
    rcases List.eq_nil_or_concat lot with rfl | ⟨l, b, rfl⟩
    · simp at e
    · rw [List.concat_eq_append] at *
      have ih := one_bad p c m l (by simpa using e)
      rw [oneP_snoc, ← ih]
      have e1 : enumL (l ++ [b]) = enumL l ++ [((l.length : Int), b, ())] := by unfold enumL; rw [enumF_snoc, Nat.zero_add]
      have e2 : ∀ q ∈ enumL l, badP p c (l ++ [b]) q = badP p c l q := fun q hq => by
        have := enum_lt hq
        unfold badP
        rw [List.take_append_of_le_length (by omega)]
      rw [e1, Bool.eq_iff_iff, Bool.and_eq_true, Option.isNone_iff_eq_none, Option.isNone_iff_eq_none, List.find?_eq_none, List.find?_eq_none]
      constructor
      · intro h
        refine ⟨fun q hq => by rw [← e2 q hq]; exact h q (List.mem_append_left _ hq), ?_⟩
        have := h ((l.length : Int), b, ()) (by simp)
        unfold badP at this
        simp at this
        simpa using this
      · rintro ⟨h1, h2⟩ q hq
        rcases List.mem_append.mp hq with hq | hq
        · rw [e2 q hq]; exact h1 q hq
        · rw [List.mem_singleton] at hq
          subst hq
          unfold badP
          simp
          simpa using h2
theorem lot_take {n : Int} {l : List Int} (h : Lot n l) {i : Nat} {b a : Int} (hb : l[i]? = some b) (ha : a ∈ l.take i) : a < b := by
  obtain ⟨hi, e⟩ := List.getElem?_eq_some_iff.mp hb
  have : l = l.take i ++ l.drop i := (List.take_append_drop i l).symm
  have hp := h.1
  rw [this] at hp
  have hd : b ∈ l.drop i := by rw [List.drop_eq_getElem_cons hi, e]; exact List.mem_cons_self
  exact (List.pairwise_append.mp hp).2.2 a ha b hd
theorem p_lone {p : Int × Int × List Int × Unit} (hp : Prs p) (c : Int) {lot : List Int} (hl : Lot p.1 lot) : m__law_one p lot c = pureM (oneP p c lot) := by
  unfold m__law_one
  simp only [bp, bind_ret, optM_some, Pz.bind_assoc]
  rw [forO_find (badP p c lot) (fun _ => false) () fun q hq => ?_]
  · rw [bp, ← one_bad p c _ lot rfl]
    unfold caseO
    cases (enumL lot).find? (badP p c lot) <;> rfl
  · have hlt := enum_lt hq
    have hb := hl.2 _ (List.mem_of_getElem? hlt.2.2)
    rw [cut_to _ hlt.1, compM_pure (fun a => !decide (colP p a q.2.1 = c)) (fun a => a) (fun a ha => ?_) fun _ _ _ => rfl]
    · rw [bp, smallM_pure (xs := []) (by simp), bp, List.map_id']
      have e : (!decide (((lot.take q.1.toNat).filter fun a => !decide (colP p a q.2.1 = c)) = [])) = badP p c lot q := by
        unfold badP
        congr 1
        rw [Bool.eq_iff_iff, decide_eq_true_eq, List.filter_eq_nil_iff, List.all_eq_true]
        simp
      rw [e]
      cases badP p c lot q <;> rfl
    · have h1 := hl.2 _ (List.mem_of_mem_take ha)
      have h2 := lot_take hl hlt.2.2 ha
      rw [p_lcolor hp h1 hb (by omega), bp]
end Lw

namespace Lw
open PySem PySem.Spec PyProof.Rows L2 Pz
theorem forO_some {ρ β ι : Type} {f : β → ι → M (Out ρ β)} (g : ι → Option ρ) (b : β) : ∀ {xs : List ι}, (∀ x ∈ xs, f b x = pureM (match g x with | some r => .rt r | none => .nx b)) → forO f xs b = pureM (match xs.findSome? g with | some r => .rt r | none => .nx b)
  | [], _ => rfl
  | x :: xs, hf => by
    unfold forO
    rw [hf x List.mem_cons_self, bp]
    cases h : g x with
    | some r => simp [List.findSome?, h]
    | none =>
      dsimp only
      rw [forO_some g b fun y hy => hf y (List.mem_cons_of_mem _ hy)]
      simp [List.findSome?, h]
abbrev dNone : PyData := .tuple [.str "none"]
abbrev dForm : PyData := .tuple [.str "form"]
def toldG (p : Int × Int × List Int × Unit) (q : Int × Int × Unit) : Option PyData := ((lotsL p.1 q.2.1.toNat).filter (oneP p q.1)).head?.map fun l => .tuple [.str "lot", .int q.1, eT eInt l]
def toldP (p : Int × Int × List Int × Unit) (s : List Int) : PyData := match (enumL s).findSome? (toldG p) with
  | some d => d
  | none => dNone
structure Szs (s : List Int) : Prop where
  sz : ∀ k ∈ s, 1 ≤ k ∧ k ≤ 6
  few : s.length ≤ 10
theorem enum_mem {α : Type} {xs : List α} {q : Int × α × Unit} (h : q ∈ enumL xs) : q.2.1 ∈ xs := List.mem_of_getElem? (enum_lt h).2.2
theorem p_paper {p : Int × Int × List Int × Unit} (hp : Prs p) {s : List Int} (hs : Szs s) : m_color_paper p s = pureM (toldP p s) := by
  unfold m_color_paper toldP
  simp only [bp, bind_ret, optM_some, Pz.bind_assoc, eD]
  rw [forO_some (toldG p) () fun q hq => ?_]
  · rw [bp]
    unfold caseO
    cases (enumL s).findSome? (toldG p) <;> rfl
  · have hk := hs.sz _ (enum_mem hq)
    rw [p_onelot hp q.1 (by omega) hk.2, bp]
    unfold toldG
    cases ((lotsL p.1 q.2.1.toNat).filter (oneP p q.1)).head? <;> rfl
theorem p_told {p : Int × Int × List Int × Unit} (hp : Prs p) {s : List Int} (hs : Szs s) : m__law_told p s = pureM (toldP p s) := by
  unfold m__law_told toldP
  simp only [bp, bind_ret, optM_some, Pz.bind_assoc, eD]
  rw [forO_some (toldG p) () fun q hq => ?_]
  · rw [bp]
    unfold caseO
    cases (enumL s).findSome? (toldG p) <;> rfl
  · have hk := hs.sz _ (enum_mem hq)
    rw [p_lots hp.n0 hp.n9 hk.1, bp, compM_pure (oneP p q.1) (fun l => l) (fun l hl => p_lone hp q.1 (mem_lotsL.mp hl).1) fun _ _ _ => rfl, bp, smallM_pure (xs := []) (by simp), bp, List.map_id']
    unfold toldG
    cases hf : (lotsL p.1 q.2.1.toNat).filter (oneP p q.1) with
    | nil => rfl
    | cons l r =>
      simp only [reduceCtorEq, decide_false, Bool.not_false, if_true, List.head?_cons]
      rw [show atI (l :: r) 0 = some l from Pz.atI_nat (xs := l :: r) (i := 0) (Nat.succ_pos _), optM_some, bp]
      rfl
end Lw

namespace Lw
open PySem PySem.Spec PyProof.Rows L2 Pz
theorem p_count (d : PyData) : m_is_plain_count d = pureM (isWN d) := by
  unfold m_is_plain_count
  cases d <;> rfl
theorem chain_zip : ∀ xs : List Int, ((xs.zip xs.tail).all fun p => decide (p.1 < p.2)) = decide (xs.Pairwise (· < ·))
  | [] => by simp
  | [x] => by simp
  | x :: y :: r => by
    have ih := chain_zip (y :: r)
    simp only [List.tail_cons, List.zip_cons_cons, List.all_cons] at ih ⊢
    rw [ih, Bool.eq_iff_iff, Bool.and_eq_true, decide_eq_true_eq, decide_eq_true_eq, decide_eq_true_eq]
    constructor
    · rintro ⟨h1, h2⟩
      refine List.pairwise_cons.mpr ⟨fun z hz => ?_, h2⟩
      rcases List.mem_cons.mp hz with rfl | hz
      · exact h1
      · have := (List.pairwise_cons.mp h2).1 z hz; omega
    · intro h
      exact ⟨(List.pairwise_cons.mp h).1 y List.mem_cons_self, (List.pairwise_cons.mp h).2⟩
theorem getD_get {l : List Int} {i : Nat} (h : i < l.length) : l.getD i 0 = l[i] := by simp [h]
theorem chain_idx (xs : List Int) : ((irange 1 xs.length).filter fun k => decide (xs.getD k.toNat 0 ≤ xs.getD (k - 1).toNat 0)) = [] ↔ xs.Pairwise (· < ·) := by
  rw [List.filter_eq_nil_iff]
  constructor
  · intro h
    rw [List.pairwise_iff_getElem]
    intro i j hi hj hij
    have step : ∀ m, i + m + 1 < xs.length → xs.getD i 0 < xs.getD (i + m + 1) 0 := by
      intro m
      induction m with
      | zero =>
        intro hm
        have := h ((i + 1 : Nat) : Int) (mem_irange.mpr ⟨by omega, by omega⟩)
        rw [decide_eq_true_eq, show (((i + 1 : Nat) : Int)).toNat = i + 1 by omega, show (((i + 1 : Nat) : Int) - 1).toNat = i by omega] at this
        simpa using this
      | succ m ih =>
        intro hm
        have h1 := ih (by omega)
        have := h ((i + m + 2 : Nat) : Int) (mem_irange.mpr ⟨by omega, by omega⟩)
        rw [decide_eq_true_eq, show (((i + m + 2 : Nat) : Int)).toNat = i + m + 2 by omega, show (((i + m + 2 : Nat) : Int) - 1).toNat = i + m + 1 by omega] at this
        show _ < xs.getD (i + m + 2) 0
        omega
    have := step (j - i - 1) (by omega)
    rw [show i + (j - i - 1) + 1 = j by omega] at this
    simpa [hi, hj] using this
  · intro h k hk
    rw [mem_irange] at hk
    rw [List.pairwise_iff_getElem] at h
    have := h (k - 1).toNat k.toNat (by omega) (by omega) (by omega)
    rw [decide_eq_true_eq, getD_get (show k.toNat < xs.length by omega), getD_get (show (k - 1).toNat < xs.length by omega)]
    omega
def inR (n : Int) : PyData → Bool
  | .int i => decide (0 ≤ i) && decide (i < n)
  | _ => false
def risB (n : Int) (xs : List Int) : Bool := (xs.all fun x => decide (0 ≤ x) && decide (x < n)) && decide (xs.Pairwise (· < ·))
theorem risB_iff {n : Int} {xs : List Int} : risB n xs = true ↔ Lot n xs := by
  unfold risB Lot
  rw [Bool.and_eq_true, decide_eq_true_eq, List.all_eq_true]
  constructor
  · rintro ⟨h1, h2⟩
    exact ⟨h2, fun x hx => by have := h1 x hx; simpa using this⟩
  · rintro ⟨h1, h2⟩
    exact ⟨fun x hx => by have := h2 x hx; simpa using this, h1⟩
def lotD (n : Int) : PyData → Option (List Int)
  | .tuple ds => if ds.all isWN then (ds.mapM asInt).filter (risB n) else none
  | _ => none
theorem lotD_some {n : Int} {d : PyData} {xs : List Int} (h : lotD n d = some xs) : d = eT eInt xs ∧ Lot n xs := by
  unfold lotD at h
  split at h
  · split at h
    · rename_i ds hw
      obtain ⟨ys, e1, e2⟩ := wn_ints hw
      rw [e1, Option.filter_eq_some_iff] at h
      obtain ⟨h1, h2⟩ := h
      cases h1
      exact ⟨by rw [e2]; rfl, risB_iff.mp h2⟩
    · cases h
  · cases h
theorem all_inR (n : Int) : ∀ xs : List Int, (xs.map eInt).all (inR n) = xs.all fun x => decide (0 ≤ x) && decide (x < n)
  | [] => rfl
  | x :: xs => by rw [List.map_cons, List.all_cons, all_inR n xs]; rfl
theorem inR_wn {n : Int} {ds : List PyData} (h : ds.all (inR n) = true) : ds.all isWN = true := by
  rw [List.all_eq_true] at h ⊢
  intro d hd
  have := h d hd
  cases d <;> first | rfl | cases this
theorem zip_map : ∀ (xs ys : List Int), zipL (xs.map eInt) (ys.map eInt) = (xs.zip ys).map fun p => (eInt p.1, eInt p.2, ())
  | [], ys => by cases ys <;> rfl
  | x :: xs, [] => rfl
  | x :: xs, y :: ys => by
    have ih := zip_map xs ys
    unfold zipL at ih ⊢
    rw [List.map_cons, List.map_cons, List.zipWith_cons_cons, ih, List.zip_cons_cons, List.map_cons]
theorem p_rising (n : Int) (d : PyData) : m_is_rising_lot n d = pureM (lotD n d).isSome := by
  unfold m_is_rising_lot
  simp only [bp, bind_ret, optM_some, Pz.bind_assoc, eD]
  cases d with
  | tuple ds =>
    rw [show isTy "tuple" (.tuple ds) = true from rfl]
    simp only [Bool.not_true, Bool.false_eq_true, if_false, asTup_t, optM_some, bp]
    rw [compM_map (inR n) fun d _ => ?_]
    · rw [bp, List.all_map]
      show (Pz.bindM (pureM (!ds.all (inR n))) _) = _
      rw [bp]
      cases hr : ds.all (inR n) with
      | false =>
        have : (lotD n (.tuple ds)).isSome = false := by
          cases q : lotD n (.tuple ds) with
          | none => rfl
          | some xs =>
            obtain ⟨e, hl⟩ := lotD_some q
            cases e
            rw [all_inR] at hr
            have := (risB_iff.mpr hl)
            unfold risB at this
            rw [hr] at this
            cases this
        rw [this]; rfl
      | true =>
        simp only [Bool.not_true, Bool.false_eq_true, if_false]
        have hw := inR_wn hr
        obtain ⟨xs, e1, e2⟩ := wn_ints hw
        subst e2
        rw [cut_from _ (by decide), show (List.map eInt xs).drop (Int.toNat 1) = xs.tail.map eInt by cases xs <;> rfl, zip_map, comp_map, compM_map (fun p : Int × Int => decide (p.1 < p.2)) (fun p _ => ?_)]
        · rw [bp, List.all_map]
          congr 1
          show (xs.zip xs.tail).all (fun p => decide (p.1 < p.2)) = _
          rw [chain_zip]
          unfold lotD
          dsimp only
          rw [if_pos hw, e1]
          rw [all_inR] at hr
          unfold risB
          simp only [Option.filter, hr, Bool.true_and]
          cases decide (List.Pairwise (· < ·) xs) <;> rfl
        · rfl
    · rw [p_count, bp]
      cases d with
      | int i =>
        simp only [isWN, if_true, asInt, optM_some, bp, inR]
        cases decide (0 ≤ i) <;> rfl
      | _ => rfl
  | _ => rfl
def otherG (p : Int × Int × List Int × Unit) (c : Int) (lot : List Int) (q : Int × Int × Unit) : Option (Int × Int × Unit) := ((lot.take q.1.toNat).find? fun a => !decide (colP p a q.2.1 = c)).map fun a => (a, q.2.1, ())
def otherP (p : Int × Int × List Int × Unit) (c : Int) (lot : List Int) : Option (Int × Int × Unit) := (enumL lot).findSome? (otherG p c lot)
theorem p_other {p : Int × Int × List Int × Unit} (hp : Prs p) (c : Int) {lot : List Int} (hl : Lot p.1 lot) : m_first_other_pair p c lot = pureM (otherP p c lot) := by
  unfold m_first_other_pair otherP
  simp only [bp, bind_ret, optM_some, Pz.bind_assoc]
  rw [forO_some (fun q => (otherG p c lot q).map some) () fun q hq => ?_]
  · rw [bp]
    have : (enumL lot).findSome? (fun q => (otherG p c lot q).map some) = ((enumL lot).findSome? (otherG p c lot)).map some := by
      induction enumL lot with
      | nil => rfl
      | cons a l ih =>
        rw [List.findSome?_cons, List.findSome?_cons]
        cases otherG p c lot a with
        | none => exact ih
        | some r => rfl
    rw [this]
    unfold caseO
    cases (enumL lot).findSome? (otherG p c lot) <;> rfl
  · have hlt := enum_lt hq
    have hb := hl.2 _ (List.mem_of_getElem? hlt.2.2)
    rw [Pz.cut_to _ hlt.1, forO_find (fun a => !decide (colP p a q.2.1 = c)) (fun a => some (a, q.2.1, ())) () fun a ha => ?_]
    · rw [bp]
      unfold otherG caseO
      cases (List.take q.1.toNat lot).find? fun a => !decide (colP p a q.2.1 = c) <;> rfl
    · have h1 := hl.2 _ (List.mem_of_mem_take ha)
      have h2 := lot_take hl hlt.2.2 ha
      rw [p_color hp h1 hb (by omega), bp]
      cases decide (colP p a q.2.1 = c) <;> rfl
def lotF (p : Int × Int × List Int × Unit) (s : List Int) (i : Int) (l : List Int) : PyData :=
  if (l.length : Int) = s.getD i.toNat 0 then (match otherP p i l with | some (a, b, _) => .tuple [.str "pair", .int a, .int b] | none => .none) else .tuple [.str "size", .int l.length]
theorem sz_at {s : List Int} {i : Int} (h0 : 0 ≤ i) (h : i < s.length) : atI s i = some (s.getD i.toNat 0) := by
  obtain ⟨x, e1, e2⟩ := atI_ok h0 h
  rw [e1, List.getD_eq_getElem?_getD, e2]; rfl
theorem p_lotfault {p : Int × Int × List Int × Unit} (hp : Prs p) {s : List Int} {i : Int} (h0 : 0 ≤ i) (h : i < s.length) {l : List Int} (hl : Lot p.1 l) : m_color_lot_fault p s i l = pureM (lotF p s i l) := by
  unfold m_color_lot_fault lotF
  simp only [bp, bind_ret, optM_some, Pz.bind_assoc, eD]
  rw [sz_at h0 h, optM_some, bp]
  by_cases e : (l.length : Int) = s.getD i.toNat 0
  · rw [if_pos e]
    simp only [e, decide_true, Bool.not_true, Bool.false_eq_true, if_false]
    rw [p_other hp i hl, bp]
    cases hq : otherP p i l with
    | none => rfl
    | some r =>
      obtain ⟨a, b, u⟩ := r
      simp only [Option.isSome_some, if_true, optM_some, bp]
      rw [smallM_pure (by simp [sizeLine]), bp]
      rfl
  · rw [if_neg e]
    simp only [e, decide_false, Bool.not_false, if_true]
    rfl
def faultD (p : Int × Int × List Int × Unit) (s : List Int) : PyData → PyData
  | .tuple (.str t :: rest) => if t = ("none" : Str) then (if rest.isEmpty then (match (enumL s).findSome? (toldG p) with | some (.tuple (_ :: r)) => .tuple (.str "there" :: r) | some _ => .none | none => .none) else dForm)
    else if t = ("lot" : Str) then (match rest with
      | [.int i, d] => if 0 ≤ i ∧ i < p.2.1 then (match lotD p.1 d with | some l => lotF p s i l | none => dForm) else dForm
      | _ => dForm) else dForm
  | _ => dForm
end Lw

namespace Lw
open PySem PySem.Spec PyProof.Rows L2 Pz
theorem eqZ_t {v : PyData} (hp : pl0 v = true) (hd : v.depth ≤ 60) (t : Str) : eqZ v (.tuple [.str t]) = some (PyData.eqv v (.tuple [.str t])) := by
  unfold eqZ
  refine if_pos ⟨?_, hd⟩
  unfold cmB
  rw [Bool.or_eq_true]
  left
  rw [Bool.and_eq_true]
  exact ⟨hp, rfl⟩
theorem eqv_1 (s t : Str) : PyData.eqv (.tuple [.str s]) (.tuple [.str t]) = decide (s = t) := by
  simp [PyData.eqv, PyData.eqvAll]
  exact Bool.beq_eq_decide_eq s t
theorem eqv_2 (x y : PyData) (r : List PyData) (t : Str) : PyData.eqv (.tuple (x :: y :: r)) (.tuple [.str t]) = false := by simp [PyData.eqv, PyData.eqvAll]
theorem eqZ_int (i j : Int) : eqZ (.int i) (.int j) = some (decide (i = j)) := by
  unfold eqZ
  rw [if_pos ⟨rfl, by simp [PyData.depth]⟩]
  simp [PyData.eqv]
  exact Bool.beq_eq_decide_eq i j
theorem plain_ints (l : List Int) : (eT eInt l).plain = true := (Dc.tup (n := 0) Dc.int).plain l
theorem told_some {p : Int × Int × List Int × Unit} {s : List Int} {d : PyData} (h : (enumL s).findSome? (toldG p) = some d) : ∃ i l, d = .tuple [.str "lot", .int i, eT eInt l] ∧ 0 ≤ i ∧ i < s.length ∧ Lot p.1 l ∧ (l.length : Int) = max 0 (s.getD i.toNat 0) ∧ oneP p i l = true := by
  obtain ⟨q, hq, e⟩ := List.exists_of_findSome?_eq_some h
  unfold toldG at e
  obtain ⟨l, hl, rfl⟩ := Option.map_eq_some_iff.mp e
  have hlt := enum_lt hq
  have hm := List.mem_filter.mp (List.mem_of_head? hl)
  have hmm := mem_lotsL.mp hm.1
  refine ⟨q.1, l, rfl, hlt.1, hlt.2.1, hmm.1, ?_, hm.2⟩
  rw [hmm.2, List.getD_eq_getElem?_getD, hlt.2.2]
  show ((q.2.1.toNat : Nat) : Int) = max 0 q.2.1
  omega
theorem told_eqZ {p : Int × Int × List Int × Unit} {s : List Int} : eqZ (toldP p s) dNone = some ((enumL s).findSome? (toldG p)).isNone := by
  unfold toldP
  cases h : (enumL s).findSome? (toldG p) with
  | none => exact (eqZ_t rfl (by decide) _).trans (by rw [eqv_1]; rfl)
  | some d =>
    obtain ⟨i, l, rfl, _⟩ := told_some h
    have hpl := plain_ints l
    have hdd : PyData.depth (eT eInt l) ≤ 1 := (Dc.tup (n := 0) Dc.int).depth l
    refine (eqZ_t (pl0_plain _ (by simp [PyData.plain, PyData.plainAll, hpl])) (by simp only [PyData.depth, PyData.depthAll]; omega) _).trans ?_
    rw [eqv_2]; rfl
structure HeadOk (x : PyData) (z : Str) : Prop where
  rep : reprO (.tuple [x]) = some z
  lot : z = ("('lot',)" : Str) ↔ x = .str "lot"
  non : z = ("('none',)" : Str) ↔ x = .str "none"
variable {p : Int × Int × List Int × Unit} {s : List Int}
theorem ne_nl : ¬ ((("lot" : String) : Str) = (("none" : String) : Str)) := by decide +kernel
theorem p_judge (hp : Prs p) (hs : Szs s) (hl : (s.length : Int) = p.2.1) {v : PyData} (h0 : pl0 v = true) (hd : v.depth ≤ 60) : m_judge_color p s v = pureM (faultD p s v) := by
  unfold m_judge_color
  simp only [bp, bind_ret, optM_some, Pz.bind_assoc, eD]
  cases v with
  | tuple ds =>
    rw [show isTy "tuple" (.tuple ds) = true from rfl]
    simp only [Bool.not_true, Bool.false_eq_true, if_false, asTup_t, optM_some, bp]
    have none_case : ∀ (x : PyData) (r : List PyData), (∀ t, x ≠ .str t) → faultD p s (.tuple (x :: r)) = dForm := fun x r h => by
      unfold faultD
      cases x <;> first | rfl | exact absurd rfl (h _)
    match ds, h0, hd with
    | [], _, _ => rfl
    | [x], h0, hd =>
      rw [show (!decide ((([x] : List PyData).length : Int) ∈ [(1 : Int), 3])) = false from rfl]
      simp only [Bool.false_eq_true, if_false, at0, optM_some, bp]
      cases x with
      | str t =>
        rw [show isTy "str" (.str t) = true from rfl]
        simp only [Bool.not_true, Bool.false_eq_true, if_false, bp]
        rw [show eP (eC eStr eU) (("none" : Str), ()) = .tuple [.str "none"] from rfl, eqZ_t h0 hd, optM_some, bp, eqv_1]
        unfold faultD
        dsimp only
        by_cases ht : t = ("none" : Str)
        · rw [if_pos ht]
          simp only [ht, decide_true, if_true, List.isEmpty_nil]
          rw [p_paper hp hs, bp, told_eqZ, Option.map_some, optM_some, bp]
          unfold toldP
          cases hf : (enumL s).findSome? (toldG p) with
          | none => rfl
          | some d =>
            obtain ⟨i, l, rfl, _⟩ := told_some hf
            simp only [Option.isNone_some, Bool.not_false, if_true, asTup_t, optM_some, bp]
            rw [Pz.cut_from _ (by decide)]
            rw [smallM_pure (by simp [sizeLine]), bp]
            rfl
        · rw [if_neg ht]
          simp only [ht, decide_false, Bool.false_eq_true, if_false, eqZ_str, Option.map_some, optM_some, bp]
          by_cases h2 : t = ("lot" : Str)
          · rw [if_pos h2]
            simp only [h2, decide_true, Bool.not_true, Bool.false_eq_true, if_false]
            rfl
          · rw [if_neg h2]
            simp only [h2, decide_false, Bool.not_false, if_true, bp]
            rfl
      | _ => rfl
    | [x, y], h0, hd =>
      rw [show (!decide ((([x, y] : List PyData).length : Int) ∈ [(1 : Int), 3])) = true from rfl]
      simp only [if_true, bp]
      cases x with
      | str t =>
        unfold faultD
        dsimp only
        by_cases ht : t = ("none" : Str)
        · rw [if_pos ht]; rfl
        · rw [if_neg ht]
          by_cases h2 : t = ("lot" : Str)
          · rw [if_pos h2]; cases y <;> rfl
          · rw [if_neg h2]; rfl
      | _ => rfl
    | [x, y, z], h0, hd =>
      rw [show (!decide ((([x, y, z] : List PyData).length : Int) ∈ [(1 : Int), 3])) = false from rfl]
      simp only [Bool.false_eq_true, if_false, at0, at1, at2, optM_some, bp]
      cases x with
      | str t =>
        rw [show isTy "str" (.str t) = true from rfl]
        simp only [Bool.not_true, Bool.false_eq_true, if_false, bp]
        rw [show eP (eC eStr eU) (("none" : Str), ()) = .tuple [.str "none"] from rfl, eqZ_t h0 hd, optM_some, bp, eqv_2]
        simp only [Bool.false_eq_true, if_false, eqZ_str, Option.map_some, optM_some, bp]
        unfold faultD
        dsimp only
        by_cases ht : t = ("none" : Str)
        · rw [if_pos ht, decide_eq_false (show ¬ t = ("lot" : Str) by rw [ht]; exact fun q => ne_nl q.symm)]
          rfl
        · rw [if_neg ht]
          by_cases h2 : t = ("lot" : Str)
          · rw [if_pos h2]
            simp only [h2, decide_true, Bool.not_true, Bool.false_eq_true, if_false]
            rw [show (!decide ((([PyData.str ("lot" : Str), y, z] : List PyData).length : Int) = 3)) = false from rfl]
            simp only [Bool.false_eq_true, if_false, p_count, bp]
            cases y with
            | int i =>
              simp only [isWN, Bool.not_true, Bool.false_eq_true, if_false, asInt, optM_some, bp]
              by_cases hi : 0 ≤ i ∧ i < p.2.1
              · rw [if_pos hi]
                simp only [hi.1, hi.2, decide_true, if_true, bp, Bool.not_true, Bool.false_eq_true, if_false]
                rw [p_rising, bp]
                cases hz : lotD p.1 z with
                | none => rfl
                | some l =>
                  obtain ⟨rfl, hL⟩ := lotD_some hz
                  simp only [Option.isSome_some, if_true]
                  rw [show asTup (eT eInt l) = some (l.map eInt) from rfl, optM_some, bp, mapM_ints, optM_some, bp, p_lotfault hp hi.1 (by omega) hL]
              · rw [if_neg hi]
                by_cases h3 : 0 ≤ i
                · have h4 : ¬ i < p.2.1 := fun q => hi ⟨h3, q⟩
                  simp only [h3, h4, decide_true, decide_false, if_true, bp, Bool.not_false]
                  rfl
                · simp only [h3, decide_false, Bool.false_eq_true, if_false, bp, Bool.not_false, if_true]
                  rfl
            | _ => rfl
          · rw [if_neg h2]
            simp only [h2, decide_false, Bool.not_false, if_true, bp]
            rfl
      | _ => rfl
    | x :: y :: z :: u :: w, h0, hd =>
      rw [show (!decide (((x :: y :: z :: u :: w : List PyData).length : Int) ∈ [(1 : Int), 3])) = true by
        simp only [Bool.not_eq_true', decide_eq_false_iff_not, List.length_cons, List.mem_cons, List.not_mem_nil, or_false]; omega]
      simp only [if_true, bp]
      cases x with
      | str t =>
        unfold faultD
        dsimp only
        by_cases ht : t = ("none" : Str)
        · rw [if_pos ht]; rfl
        · rw [if_neg ht]
          by_cases h2 : t = ("lot" : Str)
          · rw [if_pos h2]; cases y <;> rfl
          · rw [if_neg h2]; rfl
      | _ => rfl
  | _ => rfl
end Lw

namespace Lw
open PySem PySem.Spec PyProof.Rows L2 Pz
variable {p : Int × Int × List Int × Unit} {s : List Int}
theorem asInt_i (i : Int) : asInt (.int i) = some i := rfl
theorem filt_ints (l : List Int) (q : Int → Bool) : eqZ (eL eD ((l.filter q).map eInt)) (eL eD []) = some (!(l.any q)) := by
  have hp : pl0s ((l.filter q).map eInt) = true := pl0_plain (eT eInt (l.filter q)) (plain_ints _)
  have hd : PyData.depth (eT eInt (l.filter q)) ≤ 1 := (Dc.tup (n := 0) Dc.int).depth _
  rw [eqZ_nil hp (by have : PyData.depthAll ((l.filter q).map eInt) + 1 ≤ 1 := by simpa [eT, PyData.depth, Nat.add_comm] using hd
                     omega)]
  congr 1
  rw [List.isEmpty_map]
  induction l with
  | nil => rfl
  | cons a l ih =>
    cases h : q a with
    | true => rw [List.filter_cons_of_pos h, List.any_cons, h]; rfl
    | false => rw [List.filter_cons_of_neg (by rw [h]; simp), List.any_cons, h, Bool.false_or]; exact ih (pl0_plain (eT eInt (l.filter q)) (plain_ints _)) ((Dc.tup (n := 0) Dc.int).depth _)
theorem ix_ints (l : List Int) {k : Int} (h0 : 0 ≤ k) (h : k < l.length) : atI (l.map eInt) k = some (eInt (l.getD k.toNat 0)) := by
  obtain ⟨x, e1, e2⟩ := atI_ok (xs := l.map eInt) h0 (by rw [List.length_map]; exact h)
  rw [e1]
  rw [List.getElem?_map] at e2
  obtain ⟨y, hy, rfl⟩ := Option.map_eq_some_iff.mp e2
  rw [List.getD_eq_getElem?_getD, hy]; rfl
theorem p_lfault (hp : Prs p) (hs : Szs s) (hl : (s.length : Int) = p.2.1) {v : PyData} (h0 : pl0 v = true) (hd : v.depth ≤ 50) (hn : ∀ ds, v = .tuple ds → ∀ z ∈ ds, ∀ es, z = .tuple es → es.length ≤ 3000) (hh : ∀ x r, v = .tuple (x :: r) → ∃ z, HeadOk x z) : m__law_fault p s v = pureM (faultD p s v) := by
  unfold m__law_fault
  simp only [bp, bind_ret, optM_some, Pz.bind_assoc, eD]
  cases v with
  | tuple ds =>
    rw [show isTy "tuple" (.tuple ds) = true from rfl]
    simp only [Bool.not_true, Bool.false_eq_true, if_false, optM_some, bp, asTup_t, Pz.bind_assoc]
    rw [Pz.cut_to _ (by decide)]
    cases ds with
    | nil =>
      rw [show reprO (eT eD (List.take (Int.toNat 1) [])) = some (("()" : String) : Str) by decide +kernel, optM_some, bp]
      rw [show (!decide ((("()" : String) : Str) ∈ [(("('lot',)" : String) : Str), (("('none',)" : String) : Str)])) = true by decide +kernel]
      rfl
    | cons x r =>
      obtain ⟨z, hz⟩ := hh x r rfl
      rw [show reprO (eT eD (List.take (Int.toNat 1) (x :: r))) = some z from hz.rep]
      simp only [optM_some, bp, at0]
      have hmem : (z ∈ [(("('lot',)" : String) : Str), (("('none',)" : String) : Str)]) ↔ (x = .str "lot" ∨ x = .str "none") := by
        rw [List.mem_cons, List.mem_singleton, hz.lot, hz.non]
      by_cases hin : x = .str "lot" ∨ x = .str "none"
      · rw [show (!decide (z ∈ [(("('lot',)" : String) : Str), (("('none',)" : String) : Str)])) = false by simp only [Bool.not_eq_false', decide_eq_true_eq]; exact hmem.mpr hin]
        simp only [Bool.false_eq_true, if_false]
        rcases hin with rfl | rfl
        · rw [eqZ_str, optM_some, bp, decide_eq_false ne_nl]
          simp only [Bool.false_eq_true, if_false]
          unfold faultD
          dsimp only
          rw [if_neg ne_nl, if_pos rfl]
          match r with
          | [] => rfl
          | [y] => cases y <;> rfl
          | [y, w] =>
            rw [show (!decide ((([PyData.str ("lot" : Str), y, w] : List PyData).length : Int) = 3)) = false from rfl]
            simp only [Bool.false_eq_true, if_false, at1, optM_some, bp]
            cases y with
            | int i =>
              rw [show isTy "int" (.int i) = true from rfl, show isTy "bool" (.int i) = false from rfl]
              simp only [Bool.not_true, Bool.false_eq_true, if_false, asInt_i, optM_some, bp]
              by_cases hi : 0 ≤ i ∧ i < p.2.1
              · rw [if_pos hi]
                simp only [hi.1, hi.2, decide_true, if_true, bp, Bool.not_true, Bool.false_eq_true, if_false]
                rw [Pz.cut_from _ (by decide), show of2 (List.drop (Int.toNat 1) [PyData.str ("lot" : Str), .int i, w]) = some (.int i, w, ()) from rfl, optM_some, bp]
                cases w with
                | tuple es =>
                  have hes := hn _ rfl (.tuple es) (by simp) es rfl
                  rw [show isTy "tuple" (.tuple es) = true from rfl]
                  simp only [Bool.not_true, Bool.false_eq_true, if_false, asTup_t, optM_some, bp]
                  rw [compM_pureF (fun y => !isWN y) fun y _ => by cases y <;> rfl, bp, smallM_pure (xs := []) (by simp), bp]
                  have hpl : pl0s es = true := by simp only [pl0, pl0s, Bool.and_eq_true] at h0; exact h0.2.2.1
                  have hdl : PyData.depthAll es ≤ 48 := by simp only [PyData.depth, PyData.depthAll] at hd; omega
                  rw [eqZ_nil (pl0s_filter hpl) (by have := depth_filter (p := fun y => !isWN y) (ys := es); omega), Option.map_some, optM_some, bp]
                  unfold lotD
                  dsimp only
                  cases hw : es.all isWN with
                  | false =>
                    have : (es.filter fun y => !isWN y).isEmpty = false := by
                      cases q : (es.filter fun y => !isWN y) with
                      | cons _ _ => rfl
                      | nil =>
                        rw [List.filter_eq_nil_iff] at q
                        have : es.all isWN = true := List.all_eq_true.mpr fun a ha => by have := q a ha; simpa using this
                        rw [this] at hw; cases hw
                    rw [this]; rfl
                  | true =>
                    have : (es.filter fun y => !isWN y).isEmpty = true := by
                      rw [List.isEmpty_iff, List.filter_eq_nil_iff]
                      intro a ha
                      have := List.all_eq_true.mp hw a ha
                      simp [this]
                    rw [this]
                    simp only [Bool.not_true, Bool.false_eq_true, if_false, if_true]
                    obtain ⟨l, e1, rfl⟩ := wn_ints hw
                    rw [List.length_map] at hes
                    rw [mapM_ints, comp_map, compM_pure (fun a => !(decide (0 ≤ a) && decide (a < p.1))) eInt (fun a _ => ?_) fun _ _ _ => rfl]
                    · rw [bp, bp, filt_ints, Option.map_some, optM_some, bp]
                      cases hr : (l.all fun a => decide (0 ≤ a) && decide (a < p.1)) with
                      | false =>
                        have h1 : (!(l.any fun a => !(decide (0 ≤ a) && decide (a < p.1)))) = false := by
                          rw [← hr, List.any_eq_not_all_not]; simp
                        rw [h1]
                        simp only [Option.filter, risB, hr, Bool.false_and]
                        rfl
                      | true =>
                        have h1 : (!(l.any fun a => !(decide (0 ≤ a) && decide (a < p.1)))) = true := by
                          rw [← hr, List.any_eq_not_all_not]; simp
                        rw [h1]
                        simp only [Bool.not_true, Bool.false_eq_true, if_false, List.length_map]
                        rw [rangeM_sm (by omega) (by omega) (by omega) (by omega), bp, compM_pureF (fun k => decide (l.getD k.toNat 0 ≤ l.getD (k - 1).toNat 0)) fun k hk => ?_]
                        · rw [bp, smallM_pure (xs := []) (by simp), bp]
                          simp only [Option.filter, risB, hr, Bool.true_and]
                          by_cases hc : l.Pairwise (· < ·)
                          · rw [(chain_idx l).mpr hc]
                            simp only [hc, decide_true, Bool.not_true, Bool.false_eq_true, if_false, if_true]
                            have hL : Lot p.1 l := risB_iff.mp (by unfold risB; rw [hr]; simp [hc])
                            unfold lotF
                            simp only [bp, asInt_i, optM_some, Bool.false_eq_true, if_false]
                            rw [sz_at hi.1 (by omega), optM_some, bp]
                            by_cases e : (l.length : Int) = s.getD i.toNat 0
                            · rw [if_pos e]
                              simp only [e, decide_true, Bool.not_true, Bool.false_eq_true, if_false]
                              rw [enum_map, forO_map, forO_some (fun q => (otherG p i l q).map fun t => PyData.tuple [.str "pair", .int t.1, .int t.2.1]) () fun q hq => ?_]
                              · rw [bp]
                                have : (enumL l).findSome? (fun q => (otherG p i l q).map fun t => PyData.tuple [.str "pair", .int t.1, .int t.2.1]) = (otherP p i l).map fun t => PyData.tuple [.str "pair", .int t.1, .int t.2.1] := by
                                  unfold otherP
                                  induction enumL l with
                                  | nil => rfl
                                  | cons a l ih =>
                                    rw [List.findSome?_cons, List.findSome?_cons]
                                    cases otherG p i _ a with
                                    | none => exact ih
                                    | some r => rfl
                                rw [this]
                                unfold caseO
                                cases otherP p i l with
                                | none => rfl
                                | some t => obtain ⟨a, b, u⟩ := t; rfl
                              · have hlt := enum_lt hq
                                have hb := hL.2 _ (List.mem_of_getElem? hlt.2.2)
                                dsimp only
                                rw [Pz.cut_to _ hlt.1, ← List.map_take, comp_map, compM_pure (fun a => !decide (colP p a q.2.1 = i)) eInt (fun a ha => ?_) fun _ _ _ => rfl]
                                · rw [bp, filt_ints, Option.map_some, optM_some, bp]
                                  unfold otherG
                                  cases hf : (List.take q.1.toNat l).filter fun a => !decide (colP p a q.2.1 = i) with
                                  | nil =>
                                    have h2 : ((List.take q.1.toNat l).any fun a => !decide (colP p a q.2.1 = i)) = false := by
                                      rw [List.any_eq_false]
                                      exact fun a ha => List.filter_eq_nil_iff.mp hf a ha
                                    rw [h2, ← find_head, hf]; rfl
                                  | cons a t =>
                                    have h2 : ((List.take q.1.toNat l).any fun a => !decide (colP p a q.2.1 = i)) = true := by
                                      rw [List.any_eq_true]
                                      have : a ∈ ((List.take q.1.toNat l).filter fun a => !decide (colP p a q.2.1 = i)) := by rw [hf]; exact List.mem_cons_self
                                      exact ⟨a, (List.mem_filter.mp this).1, (List.mem_filter.mp this).2⟩
                                    rw [h2, ← find_head, hf]
                                    simp only [Bool.not_true, Bool.not_false, if_true, List.map_cons, at0, optM_some, bp, List.head?_cons, Option.map_some]
                                    rfl
                                · have h1 := hL.2 _ (List.mem_of_mem_take ha)
                                  have h2 := lot_take hL hlt.2.2 ha
                                  rw [show asInt (eInt a) = some a from rfl, optM_some, bp, show asInt (eInt q.2.1) = some q.2.1 from rfl, optM_some, bp, p_lcolor hp h1 hb (by omega), bp, show eqZ (eInt (colP p a q.2.1)) (.int i) = _ from eqZ_int _ _]
                                  rfl
                            · rw [if_neg e]
                              simp only [e, decide_false, Bool.not_false, if_true]
                              rfl
                          · have : ¬ (((irange 1 l.length).filter fun k => decide (l.getD k.toNat 0 ≤ l.getD (k - 1).toNat 0)) = []) := fun q => hc ((chain_idx l).mp q)
                            simp only [this, hc, decide_false, Bool.not_false, if_true]
                            rfl
                        · rw [mem_irange] at hk
                          rw [ix_ints l (by omega) (by omega), optM_some, bp, show asInt (eInt (l.getD k.toNat 0)) = some (l.getD k.toNat 0) from rfl, optM_some, bp, ix_ints l (by omega) (by omega), optM_some, bp, show asInt (eInt (l.getD (k - 1).toNat 0)) = some (l.getD (k - 1).toNat 0) from rfl, optM_some, bp]
                    · rw [show asInt (eInt a) = some a from rfl, optM_some, bp]
                      cases decide (0 ≤ a) <;> rfl
                | _ => rfl
              · rw [if_neg hi]
                by_cases h3 : 0 ≤ i
                · have h4 : ¬ i < p.2.1 := fun q => hi ⟨h3, q⟩
                  simp only [h3, h4, decide_true, decide_false, if_true, bp, Bool.not_false]
                  rfl
                · simp only [h3, decide_false, Bool.false_eq_true, if_false, bp, Bool.not_false, if_true]
                  rfl
            | _ => rfl
          | y :: w :: u :: t =>
            rw [show (!decide (((PyData.str ("lot" : Str) :: y :: w :: u :: t : List PyData).length : Int) = 3)) = true by simp only [Bool.not_eq_true', decide_eq_false_iff_not, List.length_cons]; omega]
            simp only [if_true, bp]
            cases y <;> rfl
        · rw [eqZ_str, optM_some, bp, decide_eq_true rfl]
          simp only [if_true]
          unfold faultD
          dsimp only
          rw [if_pos rfl]
          cases r with
          | nil =>
            simp only [List.length_singleton, List.isEmpty_nil, if_true]
            rw [p_told hp hs, bp, show eP (eC eStr eU) (("none" : Str), ()) = dNone from rfl, told_eqZ, Option.map_some, optM_some, bp]
            unfold toldP
            cases hf : (enumL s).findSome? (toldG p) with
            | none => rfl
            | some d =>
              obtain ⟨i, l, rfl, _⟩ := told_some hf
              simp only [Option.isNone_some, Bool.not_false, if_true, asTup_t, optM_some, bp]
              rw [Pz.cut_from _ (by decide)]
              rw [catO_ok (by simp [sizeLine]), optM_some, bp]
              rfl
          | cons y w =>
            have e : (!decide (((PyData.str ("none" : Str) :: y :: w).length : Int) = 1)) = true := by simp only [Bool.not_eq_true', decide_eq_false_iff_not, List.length_cons]; omega
            rw [e]; rfl
      · rw [show (!decide (z ∈ [(("('lot',)" : String) : Str), (("('none',)" : String) : Str)])) = true by simp only [Bool.not_eq_true', decide_eq_false_iff_not]; exact fun q => hin (hmem.mp q)]
        simp only [if_true]
        have : faultD p s (.tuple (x :: r)) = dForm := by
          unfold faultD
          cases x with
          | str t =>
            dsimp only
            rw [if_neg (fun q => hin (.inr (by rw [q]))), if_neg (fun q => hin (.inl (by rw [q])))]
          | _ => rfl
        rw [this]; rfl
  | _ => rfl
end Lw

namespace Lw
open PySem PySem.Spec PyProof.Rows L2 Pz
def RowB (m : Nat) (xs : List Int) : Prop := xs.length ≤ m ∧ ∀ x ∈ xs, 0 ≤ x ∧ x ≤ 10
theorem p_lpairs {n c : Int} (h0 : 0 ≤ n) (h9 : n ≤ 10) (hc : 1 ≤ c) (hc4 : c ≤ 4) : Sat (m__law_pairs n c) fun p => Prs p ∧ p.1 = n ∧ p.2.1 = c ∧ ∀ x ∈ p.2.2.1, 0 ≤ x ∧ x < c := by
  unfold m__law_pairs
  simp (disch := first | decide | simp) only [bp, bind_ret, optM_some, Pz.bind_assoc, sm100]
  refine Sat.bind2 (Sat.pick (Q := fun _ => True) (by omega) fun r _ _ => trivial) fun w _ => ?_
  rw [rangeM_sm (lo := 0) (by omega) (by omega) (by omega) (by omega), bp]
  refine Sat.bind2 (Sat.compAll (Q := fun y => 0 ≤ y ∧ y < c) fun x _ => Sat.pick (by omega) fun r h1 h2 => by omega) fun told htold => ?_
  rw [length_irange] at htold
  rw [rangeM_sm (lo := 0) (by omega) (by omega) (by omega) (by omega), bp]
  refine Sat.bind2 (Sat.forR (I := fun i (row : List Int) => 2 * (row.length : Int) = i * (i - 1) ∧ ∀ x ∈ row, 0 ≤ x ∧ x < c) _ rfl h0 ⟨by simp, by simp⟩ fun i row hi hin hI => ?_) fun row hrow => ?_
  · obtain ⟨hlen, hx⟩ := hI
    have hsq : i * (i - 1) ≤ 10 * 10 := by
      by_cases z : i = 0
      · subst z; decide
      · exact Int.mul_le_mul (by omega) (by omega) (by omega) (by omega)
    have hnn : 0 ≤ i * (i - 1) := by
      by_cases z : i = 0
      · subst z; decide
      · exact Int.mul_nonneg hi (by omega)
    have hrl : row.length ≤ 50 := by
      generalize i * (i - 1) = q at hlen hsq
      omega
    rw [rangeM_sm (lo := 0) (by omega) (by omega) (by omega) (by omega), bp]
    refine (Sat.forR (I := fun a (r : List Int) => (r.length : Int) = row.length + a ∧ ∀ x ∈ r, 0 ≤ x ∧ x < c) _ rfl hi ⟨by simp, hx⟩ fun a r ha hai hr => ?_).mono fun r hr => ⟨?_, hr.2⟩
    · obtain ⟨hr1, hr2⟩ := hr
      have hr3 : (r.length : Int) = row.length + a := hr1
      have app : ∀ y, (0 ≤ y ∧ y < c) → Sat (appM r y) fun r' => (r'.length : Int) = row.length + (a + 1) ∧ ∀ x ∈ r', 0 ≤ x ∧ x < c := fun y hy => by
        rw [appM_ok (by unfold sizeLine; omega)]
        refine .pure ⟨by simp; omega, fun x hx => ?_⟩
        rcases List.mem_append.mp hx with hx | hx
        · exact hr2 x hx
        · rw [List.mem_singleton] at hx; subst hx; exact hy
      have at_told : ∀ k : Int, 0 ≤ k → k < told.length → Sat (optM (atI told k)) fun y => 0 ≤ y ∧ y < c := fun k h1 h2 => by
        obtain ⟨x, e1, e2⟩ := atI_ok h1 h2
        exact Sat.opt e1 (htold.2 x (List.mem_of_getElem? e2))
      refine Sat.bind2 (Q := fun y => 0 ≤ y ∧ y < c) ?_ fun y hy => app y hy
      refine Sat.ite (fun _ => Sat.pick (by omega) fun r h1 h2 => by omega) fun _ => Sat.ite (fun _ => at_told _ ?_ ?_) fun _ => at_told _ ?_ ?_
      · omega
      · omega
      · omega
      · omega
    · have e : (i + 1) * (i + 1 - 1) = i * (i - 1) + 2 * i := by rw [Int.add_sub_cancel, Int.add_mul, Int.mul_sub]; omega
      omega
  · exact .pure ⟨⟨h0, h9, by show ((row.length : Nat) : Int) = n * (n - 1) / 2; omega⟩, rfl, rfl, hrow.2⟩
/-! ### the values that are judged -/
def SS : List Str := ["lot", "none"]
structure Gv (v : PyData) : Prop where
  sg : ∃ f, Sg f 8 3000 v
  hd : HdS SS v
theorem okSS : okS SS SS = true := by decide +kernel
theorem Gv.head {v : PyData} (h : Gv v) : ∀ x r, v = .tuple (x :: r) → ∃ z, HeadOk x z := fun x r e => by
  subst e
  obtain ⟨f, hf⟩ := h.sg
  obtain ⟨z, h1, h2⟩ := head_in (T := SS) okSS hf h.hd
  have a := h2 ("lot" : Str) (by decide +kernel)
  have b := h2 ("none" : Str) (by decide +kernel)
  rw [show (PyData.tuple [.str ("lot" : Str)]).shown = ("('lot',)" : Str) by decide +kernel] at a
  rw [show (PyData.tuple [.str ("none" : Str)]).shown = ("('none',)" : Str) by decide +kernel] at b
  exact ⟨z, h1, a, b⟩
theorem Gv.lens {v : PyData} (h : Gv v) : ∀ ds, v = .tuple ds → ∀ z ∈ ds, ∀ es, z = .tuple es → es.length ≤ 3000 := fun ds e z hz es e2 => by
  subst e
  subst e2
  obtain ⟨f, hf⟩ := h.sg
  exact (Sg.parts ((hf.parts.mem _ hz).mono (Nat.le_refl _) (Nat.le_refl _) : Sg f (6 + 1) 3000 (.tuple es))).len
theorem Gv.tup {f : Bool} {w : Nat} {ds : List PyData} (h : Sgs f 7 w ds) (hw : w ≤ 3000) (hh : ∀ s r, ds = .str s :: r → s ∈ SS) : Gv (.tuple ds) := ⟨⟨f, (Sg.tup h).mono (Nat.le_refl _) hw⟩, fun s r e => by cases e; exact hh s r rfl⟩
theorem Gv.flat {f : Bool} {v : PyData} (h : Sg f 8 3000 v) (hn : ∀ ds, v ≠ .tuple ds) : Gv v := ⟨⟨f, h⟩, fun s r e => absurd e (hn _)⟩
theorem sstr {f : Bool} {s : Str} (h : s.cps.size ≤ 50) (h2 : (s.cps.toList.all fun c => decide (c < 16 ^ 8)) = true) : Sg f 7 100 (.str s) := (Sg.str h h2).mono (by decide) (by decide)
theorem s_lot {f : Bool} : Sg f 7 100 (.str ("lot" : Str)) := sstr (by decide +kernel) (by decide +kernel)
theorem s_none {f : Bool} : Sg f 7 100 (.str ("none" : Str)) := sstr (by decide +kernel) (by decide +kernel)
theorem s_int {f : Bool} {i : Int} (h : i.natAbs < 10 ^ 30) : Sg f 7 100 (.int i) := (Sg.int h).mono (by decide) (Nat.le_refl _)
theorem s_row {f : Bool} {xs : List Int} (h : RowB 10 xs) : Sg f 7 1010 (eT eInt xs) := (Sg.ints 10 h.1 fun x hx => by have := h.2 x hx; omega).mono (by decide) (by decide)
theorem s_rowL {xs : List Int} (h : RowB 10 xs) : Sg false 7 1010 (eL eInt xs) := by
  have k := Sgs.all (f := false) (dp := 0) (w := 100) (ds := xs.map eInt) fun d hd => by
    obtain ⟨i, hi, rfl⟩ := List.mem_map.mp hd
    exact Sg.int (by have := h.2 i hi; omega)
  rw [List.length_map] at k
  exact (Sg.lst k).mono (by decide) (by have := h.1; omega)
structure OddOk (d : PyData) : Prop where
  sg : ∃ f, Sg f 5 400 d
  hd : HdS SS d
  str : ∀ s, d = .str s → s ∈ SS
theorem odds : ∀ d ∈ ([eNon (), eBool true, eInt 0, eInt 1, eInt 9, eInt (-1), eStr "lot", eStr "none", eP eU (), eP (eC eInt eU) (0, ()), eP (eC eInt (eC eInt eU)) (1, 0, ()), eP (eC eInt (eC eInt eU)) (0, 9, ()), eL eInt [0, 1], PyData.dict []] : List PyData), OddOk d := by
  intro d hd
  simp only [List.mem_cons, List.not_mem_nil, or_false] at hd
  have si : ∀ {f : Bool} (i : Int), i.natAbs < 10 ^ 30 → Sg f 0 100 (.int i) := fun i h => Sg.int h
  rcases hd with rfl | rfl | rfl | rfl | rfl | rfl | rfl | rfl | rfl | rfl | rfl | rfl | rfl | rfl
  · exact ⟨⟨true, Sg.non.mono (by decide) (by decide)⟩, fun s r e => by simp [eNon] at e, fun s e => by simp [eNon] at e⟩
  · exact ⟨⟨true, Sg.bool.mono (by decide) (by decide)⟩, fun s r e => by simp [eBool] at e, fun s e => by simp [eBool] at e⟩
  · exact ⟨⟨true, (si 0 (by decide)).mono (by decide) (by decide)⟩, fun s r e => by simp [eInt] at e, fun s e => by simp [eInt] at e⟩
  · exact ⟨⟨true, (si 1 (by decide)).mono (by decide) (by decide)⟩, fun s r e => by simp [eInt] at e, fun s e => by simp [eInt] at e⟩
  · exact ⟨⟨true, (si 9 (by decide)).mono (by decide) (by decide)⟩, fun s r e => by simp [eInt] at e, fun s e => by simp [eInt] at e⟩
  · exact ⟨⟨true, (si (-1) (by decide)).mono (by decide) (by decide)⟩, fun s r e => by simp [eInt] at e, fun s e => by simp [eInt] at e⟩
  · exact ⟨⟨true, (Sg.str (by decide +kernel) (by decide +kernel)).mono (by decide) (by decide)⟩, fun s r e => by simp [eStr] at e, fun s e => by cases e; decide +kernel⟩
  · exact ⟨⟨true, (Sg.str (by decide +kernel) (by decide +kernel)).mono (by decide) (by decide)⟩, fun s r e => by simp [eStr] at e, fun s e => by cases e; decide +kernel⟩
  · exact ⟨⟨true, (Sg.tup Sgs.nil).mono (by decide) (by decide)⟩, fun s r e => by simp [eP, eU] at e, fun s e => by simp [eP] at e⟩
  · exact ⟨⟨true, (Sg.tup (Sgs.cons (si 0 (by decide)) Sgs.nil)).mono (by decide) (by decide)⟩, fun s r e => by simp [eP, eC, eInt] at e, fun s e => by simp [eP] at e⟩
  · exact ⟨⟨true, (Sg.tup (Sgs.cons (si 1 (by decide)) (Sgs.cons (si 0 (by decide)) Sgs.nil))).mono (by decide) (by decide)⟩, fun s r e => by simp [eP, eC, eInt] at e, fun s e => by simp [eP] at e⟩
  · exact ⟨⟨true, (Sg.tup (Sgs.cons (si 0 (by decide)) (Sgs.cons (si 9 (by decide)) Sgs.nil))).mono (by decide) (by decide)⟩, fun s r e => by simp [eP, eC, eInt] at e, fun s e => by simp [eP] at e⟩
  · exact ⟨⟨false, (Sg.lst (Sgs.cons (si 0 (by decide)) (Sgs.cons (si 1 (by decide)) Sgs.nil))).mono (by decide) (by decide)⟩, fun s r e => by simp [eL] at e, fun s e => by simp [eL] at e⟩
  · exact ⟨⟨true, Sg.dict.mono (by decide) (by decide)⟩, fun s r e => by simp at e, fun s e => by simp at e⟩
def AllG (n : Nat) (l : List PyData) : Prop := l.length ≤ n ∧ ∀ v ∈ l, Gv v
theorem all_nil : AllG 0 [] := ⟨Nat.le_refl 0, by simp⟩
theorem all_cons {n : Nat} {v : PyData} {l : List PyData} (h : Gv v) (k : AllG n l) : AllG (n + 1) (v :: l) := ⟨by have := k.1; simp; exact this, fun u hu => by
  rcases List.mem_cons.mp hu with rfl | hu
  · exact h
  · exact k.2 u hu⟩
theorem sat_cat {a b : Nat} {xs ys : List PyData} (h1 : AllG a xs) (h2 : AllG b ys) (hn : a + b ≤ 1000 := by decide) : Sat (optM (catO xs ys)) (AllG (a + b)) := by
  rw [catO_ok (by have := h1.1; have := h2.1; unfold sizeLine; omega), optM_some]
  refine .pure ⟨by have := h1.1; have := h2.1; rw [List.length_append]; omega, fun v hv => ?_⟩
  rcases List.mem_append.mp hv with hv | hv
  · exact h1.2 v hv
  · exact h2.2 v hv
variable {p : Int × Int × List Int × Unit} {s : List Int}
theorem other_none (c : Int) (l : List Int) : (otherP p c l).isNone = oneP p c l := by
  rw [← one_bad p c _ l rfl, Bool.eq_iff_iff, Option.isNone_iff_eq_none, Option.isNone_iff_eq_none]
  unfold otherP
  rw [List.findSome?_eq_none_iff, List.find?_eq_none]
  have e : ∀ q, otherG p c l q = none ↔ ¬ badP p c l q = true := fun q => by
    unfold otherG badP
    rw [Option.map_eq_none_iff, List.find?_eq_none]
    simp
  exact ⟨fun h q hq => (e q).mp (h q hq), fun h q hq => (e q).mpr (h q hq)⟩
theorem fault_told (hl : (s.length : Int) = p.2.1) (hs : Szs s) : faultD p s (toldP p s) = .none := by
  unfold toldP
  cases hf : (enumL s).findSome? (toldG p) with
  | none =>
    show faultD p s dNone = .none
    unfold faultD
    dsimp only
    rw [if_pos rfl, if_pos (show ([] : List PyData).isEmpty = true from rfl), hf]
  | some d =>
    obtain ⟨i, l, rfl, h0, h1, h2, h3, h4⟩ := told_some hf
    unfold faultD
    dsimp only
    rw [if_neg ne_nl, if_pos rfl]
    rw [if_pos ⟨h0, by omega⟩]
    have e : lotD p.1 (eT eInt l) = some l := by
      unfold lotD eT
      dsimp only
      rw [if_pos (all_ints l), mapM_ints]
      simp only [Option.filter, risB_iff.mpr h2, if_true]
    rw [e]
    dsimp only
    unfold lotF
    have hk := hs.sz (s.getD i.toNat 0) (by
      rw [List.getD_eq_getElem?_getD]
      have : i.toNat < s.length := by omega
      simp [this])
    rw [if_pos (by omega)]
    have := other_none (p := p) i l
    rw [h4, Option.isNone_iff_eq_none] at this
    rw [this]
theorem fault_head (hp : Prs p) (hl : (s.length : Int) = p.2.1) {v : PyData} (h : faultD p s v = .none) : ∃ t r r2, v = .tuple (.str t :: r) ∧ toldP p s = .tuple (.str t :: r2) := by
  unfold faultD at h
  split at h
  · rename_i t rest
    split at h
    · rename_i ht
      subst ht
      split at h
      · cases hf : (enumL s).findSome? (toldG p) with
        | none => exact ⟨_, _, [], rfl, by unfold toldP; rw [hf]⟩
        | some d =>
          obtain ⟨i, l, rfl, _⟩ := told_some hf
          rw [hf] at h
          cases h
      · cases h
    · split at h
      · rename_i ht
        subst ht
        split at h
        · rename_i i d
          split at h
          · rename_i hi
            split at h
            · rename_i l hlot
              obtain ⟨hd, hL⟩ := lotD_some hlot
              unfold lotF at h
              split at h
              · rename_i hlen
                split at h
                · cases h
                · rename_i ho
                  have hone : oneP p i l = true := by rw [← other_none, ho]; rfl
                  have hlt : i.toNat < s.length := by omega
                  have hq : (i, s.getD i.toNat 0, ()) ∈ enumL s := by
                    refine List.mem_of_getElem? (i := i.toNat) ?_
                    rw [enumL_get, List.getElem?_eq_getElem hlt, Option.map_some, getD_get hlt]
                    congr 2
                    omega
                  have hsome : ((enumL s).findSome? (toldG p)).isSome = true := by
                    rw [List.findSome?_isSome_iff]
                    refine ⟨_, hq, ?_⟩
                    unfold toldG
                    rw [Option.isSome_map]
                    dsimp only
                    rw [List.isSome_head?]
                    have : l ∈ (lotsL p.1 (s.getD i.toNat 0).toNat).filter (oneP p i) := List.mem_filter.mpr ⟨mem_lotsL.mpr ⟨hL, by omega⟩, hone⟩
                    cases hh : (lotsL p.1 (s.getD i.toNat 0).toNat).filter (oneP p i) with
                    | nil => rw [hh] at this; cases this
                    | cons _ _ => simp
                  obtain ⟨d2, hd2⟩ := Option.isSome_iff_exists.mp hsome
                  obtain ⟨i2, l2, rfl, _⟩ := told_some hd2
                  exact ⟨_, _, _, rfl, by unfold toldP; rw [hd2]⟩
              · cases h
            · cases h
          · cases h
        · cases h
      · cases h
  · cases h
theorem lot_rowb {n : Int} (h0 : 0 ≤ n) (hn : n ≤ 10) {l : List Int} (h : Lot n l) : RowB 10 l := ⟨by have := lot_len h h0; omega, fun x hx => by have := h.2 x hx; omega⟩
theorem fault_rep (hp : Prs p) (hl : (s.length : Int) = p.2.1) (v : PyData) (hv : Gv v) (hs10 : s.length ≤ 10) : ∃ z, reprO (faultD p s v) = some z := by
  have fin : ∀ {d : PyData} {w : Nat}, Sg false 8 w d → w ≤ 3000 → ∃ z, reprO d = some z := fun hs hw => ⟨_, (hs.mono (by decide) hw).rep (wt := 3000)⟩
  have t1 : ∀ {ds : List PyData} {w : Nat}, Sgs false 7 w ds → w ≤ 3000 → ∃ z, reprO (.tuple ds) = some z := fun h hw => fin (Sg.tup h) hw
  have form : ∃ z, reprO dForm = some z := t1 (Sgs.cons (sstr (by decide +kernel) (by decide +kernel)) (Sgs.nil.mono (Nat.zero_le _) (Nat.le_refl 0))) (by decide)
  have non : ∃ z, reprO PyData.none = some z := fin (Sg.non.mono (by decide) (Nat.le_refl 0)) (by decide)
  unfold faultD
  split
  · split
    · split
      · cases hf : (enumL s).findSome? (toldG p) with
        | none => exact non
        | some d =>
          obtain ⟨i, l, rfl, h0, h1, h2, _⟩ := told_some hf
          exact t1 (Sgs.cons (sstr (by decide +kernel) (by decide +kernel)) (Sgs.cons (s_int (by omega)) (Sgs.cons (s_row (lot_rowb hp.n0 hp.n9 h2)) (Sgs.nil.mono (Nat.zero_le _) (Nat.le_refl 0))))) (by decide)
      · exact form
    · split
      · split
        · split
          · split
            · rename_i l hlot
              obtain ⟨hd, hL⟩ := lotD_some hlot
              have hb := lot_rowb hp.n0 hp.n9 hL
              unfold lotF
              split
              · cases ho : otherP p _ l with
                | none => exact non
                | some q =>
                  obtain ⟨a, b, u⟩ := q
                  unfold otherP at ho
                  obtain ⟨q, hq, e⟩ := List.exists_of_findSome?_eq_some ho
                  unfold otherG at e
                  obtain ⟨a2, ha2, e2⟩ := Option.map_eq_some_iff.mp e
                  cases e2
                  have h1 := hb.2 _ (List.mem_of_mem_take (List.mem_of_find?_eq_some ha2))
                  have h2 := hb.2 _ (enum_mem hq)
                  exact t1 (Sgs.cons (sstr (by decide +kernel) (by decide +kernel)) (Sgs.cons (s_int (by omega)) (Sgs.cons (s_int (by omega)) (Sgs.nil.mono (Nat.zero_le _) (Nat.le_refl 0))))) (by decide)
              · have := hb.1
                exact t1 (Sgs.cons (sstr (by decide +kernel) (by decide +kernel)) (Sgs.cons (s_int (by omega)) (Sgs.nil.mono (Nat.zero_le _) (Nat.le_refl 0)))) (by decide)
            · exact form
          · exact form
        · exact form
      · exact form
  · exact form
end Lw

namespace Lw
open PySem PySem.Spec PyProof.Rows L2 Pz
theorem told_form (p : Int × Int × List Int × Unit) (s : List Int) : toldP p s = dNone ∨ ∃ i l, toldP p s = .tuple [.str "lot", .int i, eT eInt l] ∧ 0 ≤ i ∧ i < s.length ∧ Lot p.1 l := by
  unfold toldP
  cases hf : (enumL s).findSome? (toldG p) with
  | none => exact .inl rfl
  | some d =>
    obtain ⟨i, l, rfl, h0, h1, h2, _⟩ := told_some hf
    exact .inr ⟨i, l, rfl, h0, h1, h2⟩
theorem ss_lot : ("lot" : Str) ∈ SS := by decide +kernel
theorem ss_none : ("none" : Str) ∈ SS := by decide +kernel
theorem gv_lot {x y : PyData} {f : Bool} {a b : Nat} (hx : Sg f 7 a x) (hy : Sg f 7 b y) (hw : 100 + 1 + (a + 1 + (b + 1 + 0)) ≤ 3000 := by decide) : Gv (.tuple [.str "lot", x, y]) :=
  .tup (Sgs.cons s_lot (Sgs.cons hx (Sgs.cons hy (Sgs.nil.mono (Nat.zero_le _) (Nat.le_refl 0))))) hw fun s r e => by cases e; exact ss_lot
theorem odd_lift {d : PyData} {f : Bool} (h : Sg f 5 400 d) : Sg f 7 400 d := h.mono (by decide) (Nat.le_refl _)
theorem rowb_sub {xs ys : List Int} (h : RowB 10 xs) (hl : ys.length ≤ xs.length) (hs : ∀ y ∈ ys, y ∈ xs) : RowB 10 ys := ⟨by have := h.1; omega, fun y hy => h.2 y (hs y hy)⟩
theorem told_gv {p : Int × Int × List Int × Unit} {s : List Int} (hp : Prs p) (hs : s.length ≤ 10) : ∃ ts, asTup (toldP p s) = some ts ∧ ts.length ≤ 3 ∧ Gv (toldP p s) ∧ Gv (eL eD ts) ∧ Gv (eT eD (ts ++ [eInt 0])) := by
  have z0 : ∀ {f : Bool}, Sg f 7 100 (.int 0) := s_int (by decide)
  rcases told_form p s with e | ⟨i, l, e, h0, h1, hL⟩
  · rw [e]
    refine ⟨_, rfl, by decide, ?_, ?_, ?_⟩
    · exact .tup (f := false) (Sgs.cons s_none (Sgs.nil.mono (Nat.zero_le _) (Nat.le_refl 0))) (by decide) fun s r e => by cases e; exact ss_none
    · exact .flat (f := false) ((Sg.lst (Sgs.cons s_none (Sgs.nil.mono (Nat.zero_le _) (Nat.le_refl 0)))).mono (by decide) (by decide)) fun ds => by simp [eL]
    · exact .tup (f := false) (Sgs.cons s_none (Sgs.cons z0 (Sgs.nil.mono (Nat.zero_le _) (Nat.le_refl 0)))) (by decide) fun s r e => by cases e; exact ss_none
  · rw [e]
    have hb := lot_rowb hp.n0 hp.n9 hL
    have si : ∀ {f : Bool}, Sg f 7 100 (.int i) := s_int (by omega)
    refine ⟨_, rfl, Nat.le_refl 3, gv_lot (f := false) si (s_row hb), ?_, ?_⟩
    · exact .flat (f := false) ((Sg.lst (Sgs.cons s_lot (Sgs.cons si (Sgs.cons (s_row hb) (Sgs.nil.mono (Nat.zero_le _) (Nat.le_refl 0)))))).mono (by decide) (by decide)) fun ds => by simp [eL]
    · exact .tup (f := false) (Sgs.cons s_lot (Sgs.cons si (Sgs.cons (s_row hb) (Sgs.cons z0 (Sgs.nil.mono (Nat.zero_le _) (Nat.le_refl 0)))))) (by decide) fun s r e => by cases e; exact ss_lot
theorem _root_.Pz.Sg.exact {f : Bool} {dp w : Nat} {d : PyData} (h : Sg f dp w d) : Sg f dp d.weight d := ⟨h.show_, h.dic, h.dep, h.leaf, Nat.le_refl _⟩
theorem _root_.Pz.Sgs.append {f : Bool} {dp w2 : Nat} {ys : List PyData} (k : Sgs f dp w2 ys) : ∀ {xs : List PyData} {w1 : Nat}, Sgs f dp w1 xs → Sgs f dp (w1 + w2) (xs ++ ys)
  | [], w1, _ => k.mono (Nat.le_refl _) (by omega)
  | x :: xs, w1, h => by
    have hx := (h.mem x List.mem_cons_self).exact
    have hxs : Sgs f dp (PyData.weightAll xs) xs := by
      obtain ⟨b1, b2, b3, b4, b5⟩ := h
      simp only [PyData.showableAll, PyData.depthAll, PyData.leavesShortAll, Bool.and_eq_true] at b1 b3 b4
      refine ⟨b1.2, ?_, by omega, b4.2, Nat.le_refl _⟩
      cases f with
      | true => have : noLst x = true ∧ noLsts xs = true := by simpa [noLsts] using b2
                simpa using this.2
      | false => have : x.hasDict = false ∧ PyData.hasDictAll xs = false := by simpa [PyData.hasDictAll] using b2
                 simpa using this.2
    have hw := h.wgt
    simp only [PyData.weightAll] at hw
    exact (Sgs.cons hx (Pz.Sgs.append k hxs)).mono (Nat.le_refl _) (by omega)
theorem sgs_ints {f : Bool} {xs : List Int} (h : RowB 10 xs) : Sgs f 6 1010 (xs.map eInt) := by
  have k := Sgs.all (f := f) (dp := 0) (w := 100) (ds := xs.map eInt) fun d hd => by
    obtain ⟨i, hi, rfl⟩ := List.mem_map.mp hd
    exact Sg.int (by have := h.2 i hi; omega)
  rw [List.length_map] at k
  exact k.mono (by decide) (by have := h.1; omega)
theorem p_law : Sat m_law fun r => r = true := by
  unfold m_law
  simp only [bp, bind_ret, optM_some, Pz.bind_assoc, eD]
  simp (config := { maxSteps := 10000000 }) (disch := first | decide | simp) only [bp, sm100]
  rw [rangeM_sm (lo := 0) (hi := 5) (by omega) (by omega) (by omega) (by omega), bp]
  refine Sat.bind2 (Sat.forO (I := fun _ => True) trivial fun b lap hlap _ => ?_) fun o ho => ?_
  · refine Sat.bind2 (Sat.pick (Q := fun n => 0 ≤ n ∧ n ≤ 8) (by omega) fun r h1 h2 => by omega) fun n hn => ?_
    refine Sat.bind2 (Sat.pick (Q := fun n => 0 ≤ n ∧ n ≤ 2) (by omega) fun r h1 h2 => by omega) fun c' hc' => ?_
    obtain ⟨c, rfl⟩ : ∃ c, c' = c - 1 := ⟨c' + 1, by omega⟩
    rw [show 1 + (c - 1) = c by omega]
    refine Sat.bind2 (p_lpairs hn.1 (by omega) (c := c) (by omega) (by omega)) fun p hp => ?_
    obtain ⟨hp, hp1, hp2, hpx⟩ := hp
    rw [rangeM_sm (lo := 0) (by omega) (by omega) (by omega) (by omega), bp]
    refine Sat.bind2 (Sat.compAll (Q := fun y => 1 ≤ y ∧ y ≤ 6) fun x _ => ?_) fun s hs => ?_
    · refine Sat.bind2 (Sat.ofList (Q := fun y => 0 ≤ y ∧ y ≤ 4) (by simp) (by simp) fun x hx => by simp at hx; omega) fun y hy => .pure (by omega)
    rw [length_irange] at hs
    have hS : Szs s := ⟨hs.2, by omega⟩
    have hsl : (s.length : Int) = p.2.1 := by rw [hp2]; omega
    have hs10 : s.length ≤ 10 := by omega
    have hrep : ∃ z, reprO (eL eD [eP (eC eInt (eC eInt (eC (eT eInt) eU))) p, eT eInt s]) = some z := by
      have h1 : Sg false 7 6000 (eP (eC eInt (eC eInt (eC (eT eInt) eU))) p) := by
        have hl := hp.len
        have hm : p.1 = 0 ∨ p.1 = 1 ∨ p.1 = 2 ∨ p.1 = 3 ∨ p.1 = 4 ∨ p.1 = 5 ∨ p.1 = 6 ∨ p.1 = 7 ∨ p.1 = 8 := by omega
        have hl50 : p.2.2.1.length ≤ 50 := by
          rcases hm with e | e | e | e | e | e | e | e | e <;> rw [e] at hl <;> omega
        exact (Sg.tup (Sgs.cons ((Sg.int (by omega)).mono (Nat.zero_le 6) (Nat.le_refl _)) (Sgs.cons ((Sg.int (by omega)).mono (Nat.zero_le 6) (Nat.le_refl _)) (Sgs.cons ((Sg.ints 50 hl50 fun x hx => by have := hpx x hx; omega).mono (by decide) (Nat.le_refl _)) (Sgs.nil.mono (Nat.zero_le _) (Nat.le_refl 0)))))).mono (Nat.le_refl _) (by decide)
      have h2 : Sg false 7 1010 (eT eInt s) := (Sg.ints 10 hs10 fun x hx => by have := hs.2 x hx; omega).mono (by decide) (by decide)
      exact ⟨_, ((Sg.lst (Sgs.cons h1 (Sgs.cons h2 (Sgs.nil.mono (Nat.zero_le _) (Nat.le_refl 0))))).mono (by decide) (Nat.le_refl _)).rep⟩
    obtain ⟨zk, hzk⟩ := hrep
    obtain ⟨ts, hts, hts3, g1, g2, g3⟩ := told_gv (p := p) (s := s) hp hs10
    obtain ⟨ft, hft⟩ := g1.sg
    have hrt : reprO (toldP p s) = some (toldP p s).shown := (hft.mono (by decide) (Nat.le_refl _)).rep
    simp only [hzk, optM_some, bp, p_paper hp hS, p_told hp hS, hrt]
    rw [p_lfault hp hS hsl (hft.pl0) (Nat.le_trans hft.dep (by decide)) g1.lens g1.head, fault_told hsl hS]
    simp only [bp, show Pz.isNon PyData.none = true from rfl, decide_true, Bool.not_true, Bool.false_eq_true, if_false]
    refine Sat.bind2 (Sat.pick (Q := fun i => 0 ≤ i ∧ i < c) (by omega) fun r h1 h2 => by omega) fun i hi => ?_
    refine Sat.bind2 (Sat.ofList (Q := OddOk) (by simp) (by simp) odds) fun odd hodd => ?_
    have hki : 1 ≤ s.getD i.toNat 0 ∧ s.getD i.toNat 0 ≤ 6 := hs.2 _ (by rw [getD_get (show i.toNat < s.length by omega)]; exact List.getElem_mem _)
    rw [sz_at hi.1 (by omega), optM_some, bp, ← hp1, p_lots hp.n0 hp.n9 hki.1, bp]
    refine Sat.bind2 (Q := RowB 10) ?_ fun lot hlot => ?_
    · refine Sat.ite (fun h => ?_) fun _ => .pure ⟨by simp, by simp⟩
      refine Sat.ofList (by simpa using h) ?_ fun l hl => lot_rowb hp.n0 hp.n9 (mem_lotsL.mp hl).1
      have h1 := lots_len hp.n9 (s.getD i.toNat 0).toNat
      have h3 : 10 ^ (s.getD i.toNat 0).toNat ≤ 10 ^ 6 := Nat.pow_le_pow_right (by decide) (by omega)
      omega
    obtain ⟨fo, hfo⟩ := hodd.sg
    have si : ∀ {f : Bool}, Sg f 7 100 (eInt i) := s_int (by omega)
    have nil0 : ∀ {f : Bool}, Sgs f 7 0 [] := Sgs.nil.mono (Nat.zero_le _) (Nat.le_refl 0)
    have a1 : AllG 6 [toldP p s, eP (eC eStr (eC eInt (eC (eT eInt) eU))) ("lot", i, lot, ()), eP (eC eStr eU) ("none", ()), eP (eC eStr (eC eInt (eC (eT eInt) eU))) ("lot", i, lot.reverse, ()), eP (eC eStr (eC eInt (eC (eT eInt) eU))) ("lot", i, cutL lot (some 1) none, ()), eP (eC eStr (eC eD (eC (eT eInt) eU))) ("lot", odd, lot, ())] := by
      refine all_cons g1 (all_cons (gv_lot (f := false) si (s_row hlot)) (all_cons (.tup (f := false) (Sgs.cons s_none nil0) (by decide) fun s r e => by cases e; exact ss_none) (all_cons (gv_lot (f := false) si (s_row (rowb_sub hlot (by simp) (by simp)))) (all_cons (gv_lot (f := false) si (s_row ?_)) (all_cons (gv_lot (odd_lift hfo) (s_row hlot)) all_nil)))))
      rw [Pz.cut_from _ (by decide)]
      exact rowb_sub hlot (by simp) fun y hy => List.mem_of_mem_drop hy
    generalize [toldP p s, eP (eC eStr (eC eInt (eC (eT eInt) eU))) ("lot", i, lot, ()), eP (eC eStr eU) ("none", ()), eP (eC eStr (eC eInt (eC (eT eInt) eU))) ("lot", i, lot.reverse, ()), eP (eC eStr (eC eInt (eC (eT eInt) eU))) ("lot", i, cutL lot (some 1) none, ()), eP (eC eStr (eC eD (eC (eT eInt) eU))) ("lot", odd, lot, ())] = l1 at a1 ⊢
    rw [hts, optM_some, bp, catO_ok (by simp [sizeLine]; omega), optM_some, bp]
    have a2 : AllG 5 [eP (eC eStr (eC eInt (eC eD eU))) ("lot", i, odd, ()), eP (eC eD (eC eInt (eC (eT eInt) eU))) (odd, i, lot, ()), eP (eC eStr (eC eInt (eC (eL eInt) eU))) ("lot", i, lot, ()), eP (eC eStr (eC eInt (eC (eT eInt) eU))) ("lot", c, lot, ()), eT eD (ts ++ [eInt 0])] := by
      refine all_cons (gv_lot si (odd_lift hfo)) (all_cons (.tup (Sgs.cons (odd_lift hfo) (Sgs.cons si (Sgs.cons (s_row hlot) nil0))) (by decide) fun s r e => ?_) (all_cons (gv_lot (f := false) si (s_rowL hlot)) (all_cons (gv_lot (f := false) (x := .int c) (s_int (by omega)) (s_row hlot)) (all_cons g3 all_nil))))
      have e1 : odd = .str s := by
        have := (List.cons.inj e).1
        exact this
      exact hodd.str s e1
    rw [sm100 (Nat.le_trans a2.1 (by decide)), bp]
    refine Sat.bind2 (sat_cat a1 a2) fun l2 b2 => ?_
    have a3 : AllG 3 [eNon (), eP eU (), eStr ("none" : Str)] :=
      all_cons (.flat (f := false) (Sg.non.mono (by decide) (by decide)) fun ds => by simp [eNon]) (all_cons (.tup (f := false) nil0 (by decide) fun s r e => by cases e) (all_cons (.flat (f := false) (s_none.mono (by decide) (by decide)) fun ds => by simp [eStr]) all_nil))
    refine Sat.bind2 (sat_cat b2 a3) fun l3 b3 => ?_
    rw [catO_ok (by rw [List.length_map, Pz.cut_to _ (by decide), List.length_take]; have := hlot.1; simp [sizeLine]; omega), optM_some, bp, catO_ok (by rw [List.length_append, List.length_map, List.length_map, Pz.cut_to _ (by decide), Pz.cut_from _ (by decide), List.length_take, List.length_drop]; have := hlot.1; simp [sizeLine]; omega), optM_some, bp, bp]
    have a4 : AllG 5 [eP (eC eStr (eC eInt (eC (eT eD) eU))) ("lot", i, List.map eInt (cutL lot none (some 1)) ++ [odd] ++ List.map eInt (cutL lot (some 2) none), ()), eL eD ts, eP (eC eStr (eC eInt eU)) ("none", 0, ()), odd, eP (eC eStr (eC eInt eU)) ("lot", i, ())] := by
      rw [Pz.cut_to _ (by decide), Pz.cut_from _ (by decide)]
      have c1 : RowB 10 (lot.take (Int.toNat 1)) := rowb_sub hlot (by rw [List.length_take]; omega) fun y hy => List.mem_of_mem_take hy
      have c2 : RowB 10 (lot.drop (Int.toNat 2)) := rowb_sub hlot (by rw [List.length_drop]; omega) fun y hy => List.mem_of_mem_drop hy
      have c3 : Sgs fo 6 (1010 + (400 + 1 + 0) + 1010) (List.map eInt (lot.take (Int.toNat 1)) ++ [odd] ++ List.map eInt (lot.drop (Int.toNat 2))) :=
        Pz.Sgs.append (sgs_ints c2) (Pz.Sgs.append (Sgs.cons (hfo.mono (by decide) (Nat.le_refl _)) (Sgs.nil.mono (Nat.zero_le _) (Nat.le_refl 0))) (sgs_ints c1))
      refine all_cons (gv_lot si (y := eT eD _) (by rw [show ∀ l : List PyData, eT eD l = .tuple l from fun l => by simp [eT, map_eD]]; exact Sg.tup c3)) (all_cons g2 (all_cons (.tup (f := false) (Sgs.cons s_none (Sgs.cons (s_int (by decide)) nil0)) (by decide) fun s r e => by cases e; exact ss_none) (all_cons ⟨⟨fo, hfo.mono (by decide) (by decide)⟩, hodd.hd⟩ (all_cons (.tup (f := false) (Sgs.cons s_lot (Sgs.cons si nil0)) (by decide) fun s r e => by cases e; exact ss_lot) all_nil))))
    rw [sm100 (Nat.le_trans a4.1 (by decide)), bp]
    refine Sat.bind2 (sat_cat b3 a4) fun l4 b4 => ?_
    refine Sat.bind2 (Sat.forO (I := fun _ => True) trivial fun b v hv _ => ?_) fun o ho => ?_
    · have g := b4.2 v hv
      obtain ⟨fv, hfv⟩ := g.sg
      have hrv : reprO v = some v.shown := (hfv.mono (by decide) (Nat.le_refl _)).rep
      obtain ⟨zf, hzf⟩ := fault_rep (s := s) hp hsl v g hs10
      rw [hrv, optM_some, bp, p_lfault hp hS hsl hfv.pl0 (Nat.le_trans hfv.dep (by decide)) g.lens g.head, bp, p_judge hp hS hsl hfv.pl0 (Nat.le_trans hfv.dep (by decide)), bp]
      simp only [hzf, hrv, optM_some, bp, decide_true, Bool.not_true, Bool.false_eq_true, if_false]
      cases hn : Pz.isNon (faultD p s v) with
      | false => simp only [Bool.false_eq_true, if_false, bp]; exact .pure ⟨(), rfl, trivial⟩
      | true =>
        have e0 : faultD p s v = .none := by cases q : faultD p s v <;> rw [q] at hn <;> first | rfl | cases hn
        obtain ⟨t, r, r2, rfl, e2⟩ := fault_head hp hsl e0
        rw [e2] at hts
        cases hts
        simp only [if_true, asTup_t, optM_some, bp, at0]
        rw [show eqZ (PyData.str t) (PyData.str t) = some (decide (t = t)) from eqZ_str t t]
        simp only [decide_true, Option.map_some, Bool.not_true, optM_some, bp, Bool.false_eq_true, if_false]
        exact .pure ⟨(), rfl, trivial⟩
    · obtain ⟨b, rfl, _⟩ := ho
      unfold caseO
      dsimp only
      exact .pure ⟨(), rfl, trivial⟩
  · obtain ⟨b, rfl, _⟩ := ho
    unfold caseO
    dsimp only
    rw [p_paper (p := (2, 1, [0], ())) (s := [3]) ⟨by decide, by decide, by decide⟩ ⟨by simp, by simp⟩, bp, show eP (eC eStr eU) (("none" : Str), ()) = dNone from rfl, told_eqZ]
    exact Sat.opt (a := true) (by decide +kernel) rfl
end Lw

namespace Lw
open PySem PySem.Spec PyProof.Rows L2 Pz
theorem all_mk {l : PySem.W.OpenLaw} {w : World} {K : PySem.W.Frag} {h : Heap} {mg : Str → Option Value} {fa f1 f2 f3 f4 f5 f6 f7 f8 f9 f10 f11 f12 f13 f14 f15 f16 f17 f18 f19 : Addr} (X : K.In h) (G : h.Ns mainGlobals mg) (hfa : mg "law" = some (.ref fa))
    {od1 an1 od2 an2 od3 an3 od4 an4 od5 an5 od6 an6 od7 an7 od8 an8 od9 an9 od10 an10 od11 an11 od12 an12 od13 an13 od14 an14 od15 an15 od16 an16 od17 an17 od18 an18 od19 an19 : Option Addr} {sl1 sl2 sl3 sl4 sl5 sl6 sl7 sl8 sl9 sl10 sl11 sl12 sl13 sl14 sl15 sl16 sl17 sl18 sl19 : Array (Option Value)} {oc1 kV1 dc1 pm1 cd1 ct1 oc2 kV2 dc2 pm2 cd2 ct2 oc3 kV3 dc3 pm3 cd3 ct3 oc4 kV4 dc4 pm4 cd4 ct4 oc5 kV5 dc5 pm5 cd5 ct5 oc6 kV6 dc6 pm6 cd6 ct6 oc7 kV7 dc7 pm7 cd7 ct7 oc8 kV8 dc8 pm8 cd8 ct8 oc9 kV9 dc9 pm9 cd9 ct9 oc10 kV10 dc10 pm10 cd10 ct10 oc11 kV11 dc11 pm11 cd11 ct11 oc12 kV12 dc12 pm12 cd12 ct12 oc13 kV13 dc13 pm13 cd13 ct13 oc14 kV14 dc14 pm14 cd14 ct14 oc15 kV15 dc15 pm15 cd15 ct15 oc16 kV16 dc16 pm16 cd16 ct16 oc17 kV17 dc17 pm17 cd17 ct17 oc18 kV18 dc18 pm18 cd18 ct18 oc19 kV19 dc19 pm19 cd19 ct19 : Value}
    (a1 : PySem.W.nsIn K mainGlobals "_law_open_cells" = some (some (.ref f1))) (l1 : K.lookup f1 = some ⟨oc1, od1, .func (PySem.W.fnOf "_law_open_cells" "_law_open_cells" (defArgs sSource) (defBody sSource) (defScope sSource) .none kV1 dc1 pm1 an1 cd1 ct1), sl1⟩) (c1 : PySem.W.codeIn K cd1 "_law_open_cells" = true) (k1 : PySem.W.keepIn K (.ref f1) = true)
    (a2 : PySem.W.nsIn K mainGlobals "_law_pick" = some (some (.ref f2))) (l2 : K.lookup f2 = some ⟨oc2, od2, .func (PySem.W.fnOf "_law_pick" "_law_pick" (defArgs sPick) (defBody sPick) (defScope sPick) .none kV2 dc2 pm2 an2 cd2 ct2), sl2⟩) (c2 : PySem.W.codeIn K cd2 "_law_pick" = true) (k2 : PySem.W.keepIn K (.ref f2) = true)
    (a3 : PySem.W.nsIn K mainGlobals "_law_of" = some (some (.ref f3))) (l3 : K.lookup f3 = some ⟨oc3, od3, .func (PySem.W.fnOf "_law_of" "_law_of" (defArgs sOf) (defBody sOf) (defScope sOf) .none kV3 dc3 pm3 an3 cd3 ct3), sl3⟩) (c3 : PySem.W.codeIn K cd3 "_law_of" = true) (k3 : PySem.W.keepIn K (.ref f3) = true)
    (a4 : PySem.W.nsIn K mainGlobals "is_plain_count" = some (some (.ref f4))) (l4 : K.lookup f4 = some ⟨oc4, od4, .func (PySem.W.fnOf "is_plain_count" "is_plain_count" (defArgs s_is_plain_count) (defBody s_is_plain_count) (defScope s_is_plain_count) .none kV4 dc4 pm4 an4 cd4 ct4), sl4⟩) (c4 : PySem.W.codeIn K cd4 "is_plain_count" = true) (k4 : PySem.W.keepIn K (.ref f4) = true)
    (a5 : PySem.W.nsIn K mainGlobals "color_of_pair" = some (some (.ref f5))) (l5 : K.lookup f5 = some ⟨oc5, od5, .func (PySem.W.fnOf "color_of_pair" "color_of_pair" (defArgs s_color_of_pair) (defBody s_color_of_pair) (defScope s_color_of_pair) .none kV5 dc5 pm5 an5 cd5 ct5), sl5⟩) (c5 : PySem.W.codeIn K cd5 "color_of_pair" = true) (k5 : PySem.W.keepIn K (.ref f5) = true)
    (a6 : PySem.W.nsIn K mainGlobals "longer_one_colored" = some (some (.ref f6))) (l6 : K.lookup f6 = some ⟨oc6, od6, .func (PySem.W.fnOf "longer_one_colored" "longer_one_colored" (defArgs s_longer_one_colored) (defBody s_longer_one_colored) (defScope s_longer_one_colored) .none kV6 dc6 pm6 an6 cd6 ct6), sl6⟩) (c6 : PySem.W.codeIn K cd6 "longer_one_colored" = true) (k6 : PySem.W.keepIn K (.ref f6) = true)
    (a7 : PySem.W.nsIn K mainGlobals "one_colored_lot" = some (some (.ref f7))) (l7 : K.lookup f7 = some ⟨oc7, od7, .func (PySem.W.fnOf "one_colored_lot" "one_colored_lot" (defArgs s_one_colored_lot) (defBody s_one_colored_lot) (defScope s_one_colored_lot) .none kV7 dc7 pm7 an7 cd7 ct7), sl7⟩) (c7 : PySem.W.codeIn K cd7 "one_colored_lot" = true) (k7 : PySem.W.keepIn K (.ref f7) = true)
    (a8 : PySem.W.nsIn K mainGlobals "color_paper" = some (some (.ref f8))) (l8 : K.lookup f8 = some ⟨oc8, od8, .func (PySem.W.fnOf "color_paper" "color_paper" (defArgs s_color_paper) (defBody s_color_paper) (defScope s_color_paper) .none kV8 dc8 pm8 an8 cd8 ct8), sl8⟩) (c8 : PySem.W.codeIn K cd8 "color_paper" = true) (k8 : PySem.W.keepIn K (.ref f8) = true)
    (a9 : PySem.W.nsIn K mainGlobals "is_rising_lot" = some (some (.ref f9))) (l9 : K.lookup f9 = some ⟨oc9, od9, .func (PySem.W.fnOf "is_rising_lot" "is_rising_lot" (defArgs s_is_rising_lot) (defBody s_is_rising_lot) (defScope s_is_rising_lot) .none kV9 dc9 pm9 an9 cd9 ct9), sl9⟩) (c9 : PySem.W.codeIn K cd9 "is_rising_lot" = true) (k9 : PySem.W.keepIn K (.ref f9) = true)
    (a10 : PySem.W.nsIn K mainGlobals "first_other_pair" = some (some (.ref f10))) (l10 : K.lookup f10 = some ⟨oc10, od10, .func (PySem.W.fnOf "first_other_pair" "first_other_pair" (defArgs s_first_other_pair) (defBody s_first_other_pair) (defScope s_first_other_pair) .none kV10 dc10 pm10 an10 cd10 ct10), sl10⟩) (c10 : PySem.W.codeIn K cd10 "first_other_pair" = true) (k10 : PySem.W.keepIn K (.ref f10) = true)
    (a11 : PySem.W.nsIn K mainGlobals "color_lot_fault" = some (some (.ref f11))) (l11 : K.lookup f11 = some ⟨oc11, od11, .func (PySem.W.fnOf "color_lot_fault" "color_lot_fault" (defArgs s_color_lot_fault) (defBody s_color_lot_fault) (defScope s_color_lot_fault) .none kV11 dc11 pm11 an11 cd11 ct11), sl11⟩) (c11 : PySem.W.codeIn K cd11 "color_lot_fault" = true) (k11 : PySem.W.keepIn K (.ref f11) = true)
    (a12 : PySem.W.nsIn K mainGlobals "judge_color" = some (some (.ref f12))) (l12 : K.lookup f12 = some ⟨oc12, od12, .func (PySem.W.fnOf "judge_color" "judge_color" (defArgs s_judge_color) (defBody s_judge_color) (defScope s_judge_color) .none kV12 dc12 pm12 an12 cd12 ct12), sl12⟩) (c12 : PySem.W.codeIn K cd12 "judge_color" = true) (k12 : PySem.W.keepIn K (.ref f12) = true)
    (a13 : PySem.W.nsIn K mainGlobals "_law_lots" = some (some (.ref f13))) (l13 : K.lookup f13 = some ⟨oc13, od13, .func (PySem.W.fnOf "_law_lots" "_law_lots" (defArgs s__law_lots) (defBody s__law_lots) (defScope s__law_lots) .none kV13 dc13 pm13 an13 cd13 ct13), sl13⟩) (c13 : PySem.W.codeIn K cd13 "_law_lots" = true) (k13 : PySem.W.keepIn K (.ref f13) = true)
    (a14 : PySem.W.nsIn K mainGlobals "_law_pairs" = some (some (.ref f14))) (l14 : K.lookup f14 = some ⟨oc14, od14, .func (PySem.W.fnOf "_law_pairs" "_law_pairs" (defArgs s__law_pairs) (defBody s__law_pairs) (defScope s__law_pairs) .none kV14 dc14 pm14 an14 cd14 ct14), sl14⟩) (c14 : PySem.W.codeIn K cd14 "_law_pairs" = true) (k14 : PySem.W.keepIn K (.ref f14) = true)
    (a15 : PySem.W.nsIn K mainGlobals "_law_color" = some (some (.ref f15))) (l15 : K.lookup f15 = some ⟨oc15, od15, .func (PySem.W.fnOf "_law_color" "_law_color" (defArgs s__law_color) (defBody s__law_color) (defScope s__law_color) .none kV15 dc15 pm15 an15 cd15 ct15), sl15⟩) (c15 : PySem.W.codeIn K cd15 "_law_color" = true) (k15 : PySem.W.keepIn K (.ref f15) = true)
    (a16 : PySem.W.nsIn K mainGlobals "_law_one" = some (some (.ref f16))) (l16 : K.lookup f16 = some ⟨oc16, od16, .func (PySem.W.fnOf "_law_one" "_law_one" (defArgs s__law_one) (defBody s__law_one) (defScope s__law_one) .none kV16 dc16 pm16 an16 cd16 ct16), sl16⟩) (c16 : PySem.W.codeIn K cd16 "_law_one" = true) (k16 : PySem.W.keepIn K (.ref f16) = true)
    (a17 : PySem.W.nsIn K mainGlobals "_law_told" = some (some (.ref f17))) (l17 : K.lookup f17 = some ⟨oc17, od17, .func (PySem.W.fnOf "_law_told" "_law_told" (defArgs s__law_told) (defBody s__law_told) (defScope s__law_told) .none kV17 dc17 pm17 an17 cd17 ct17), sl17⟩) (c17 : PySem.W.codeIn K cd17 "_law_told" = true) (k17 : PySem.W.keepIn K (.ref f17) = true)
    (a18 : PySem.W.nsIn K mainGlobals "_law_fault" = some (some (.ref f18))) (l18 : K.lookup f18 = some ⟨oc18, od18, .func (PySem.W.fnOf "_law_fault" "_law_fault" (defArgs s__law_fault) (defBody s__law_fault) (defScope s__law_fault) .none kV18 dc18 pm18 an18 cd18 ct18), sl18⟩) (c18 : PySem.W.codeIn K cd18 "_law_fault" = true) (k18 : PySem.W.keepIn K (.ref f18) = true)
    (a19 : PySem.W.nsIn K mainGlobals "law" = some (some (.ref f19))) (l19 : K.lookup f19 = some ⟨oc19, od19, .func (PySem.W.fnOf "law" "law" (defArgs s_law) (defBody s_law) (defScope s_law) .none kV19 dc19 pm19 an19 cd19 ct19), sl19⟩) (c19 : PySem.W.codeIn K cd19 "law" = true) (k19 : PySem.W.keepIn K (.ref f19) = true)
    (z_len : PySem.W.nsIn K mainGlobals "len" = some none) (z_int : PySem.W.nsIn K mainGlobals "int" = some none) (z_abs : PySem.W.nsIn K mainGlobals "abs" = some none) (z_range : PySem.W.nsIn K mainGlobals "range" = some none) (z_sorted : PySem.W.nsIn K mainGlobals "sorted" = some none) (z_sum : PySem.W.nsIn K mainGlobals "sum" = some none) (z_all : PySem.W.nsIn K mainGlobals "all" = some none) (z_any : PySem.W.nsIn K mainGlobals "any" = some none) (z_tuple : PySem.W.nsIn K mainGlobals "tuple" = some none) (z_list : PySem.W.nsIn K mainGlobals "list" = some none) (z_max : PySem.W.nsIn K mainGlobals "max" = some none) (z_min : PySem.W.nsIn K mainGlobals "min" = some none) (z_repr : PySem.W.nsIn K mainGlobals "repr" = some none) (z_enumerate : PySem.W.nsIn K mainGlobals "enumerate" = some none) (z_zip : PySem.W.nsIn K mainGlobals "zip" = some none) (z_isinstance : PySem.W.nsIn K mainGlobals "isinstance" = some none) (z_bool : PySem.W.nsIn K mainGlobals "bool" = some none) (z_str : PySem.W.nsIn K mainGlobals "str" = some none) (z_dict : PySem.W.nsIn K mainGlobals "dict" = some none) :
    ∃ fd : FuncData, (∀ (s : Shared) (v : Value), BindsTo s fd ⟨[v], []⟩ [("script", v)]) ∧ ∀ base : Heap, K.In base → base.Ns mainGlobals mg → FnG l.prog w K mg base 6 fa fd ["script"] (SpLaw K) := by
  have e := hfa.symm.trans (PySem.W.mg_of X G a19)
  cases e
  have B : Bl mg := ⟨PySem.W.mg_none_of X G z_len, PySem.W.mg_none_of X G z_int, PySem.W.mg_none_of X G z_abs, PySem.W.mg_none_of X G z_range, PySem.W.mg_none_of X G z_sorted, PySem.W.mg_none_of X G z_sum, PySem.W.mg_none_of X G z_all, PySem.W.mg_none_of X G z_any, PySem.W.mg_none_of X G z_tuple, PySem.W.mg_none_of X G z_list, PySem.W.mg_none_of X G z_max, PySem.W.mg_none_of X G z_min, PySem.W.mg_none_of X G z_repr, PySem.W.mg_none_of X G z_enumerate, PySem.W.mg_none_of X G z_zip, PySem.W.mg_none_of X G z_isinstance, PySem.W.mg_none_of X G z_bool, PySem.W.mg_none_of X G z_str, PySem.W.mg_none_of X G z_dict⟩
  have F1 := fun_mk (st := sSource) l1 c1 k1
  have b1 := F1.binds (ps := ["script"]) fun _ _ _ _ _ _ us hl => match us, hl with | [_], _ => rfl
  have C1 : Cal K mg "_law_open_cells" f1 _ ["script"] := ⟨PySem.W.mg_of X G a1, k1, b1⟩
  have F2 := fun_mk (st := sPick) l2 c2 k2
  have b2 := F2.binds (ps := ["source", "most"]) fun _ _ _ _ _ _ us hl => match us, hl with | [_, _], _ => rfl
  have C2 : Cal K mg "_law_pick" f2 _ ["source", "most"] := ⟨PySem.W.mg_of X G a2, k2, b2⟩
  have F3 := fun_mk (st := sOf) l3 c3 k3
  have b3 := F3.binds (ps := ["source", "some"]) fun _ _ _ _ _ _ us hl => match us, hl with | [_, _], _ => rfl
  have C3 : Cal K mg "_law_of" f3 _ ["source", "some"] := ⟨PySem.W.mg_of X G a3, k3, b3⟩
  have F4 := fun_mk (st := s_is_plain_count) l4 c4 k4
  have b4 := F4.binds (ps := ["value"]) fun _ _ _ _ _ _ us hl => match us, hl with | [_], _ => rfl
  have C4 : Cal K mg "is_plain_count" f4 _ ["value"] := ⟨PySem.W.mg_of X G a4, k4, b4⟩
  have F5 := fun_mk (st := s_color_of_pair) l5 c5 k5
  have b5 := F5.binds (ps := ["pairs", "a", "b"]) fun _ _ _ _ _ _ us hl => match us, hl with | [_, _, _], _ => rfl
  have C5 : Cal K mg "color_of_pair" f5 _ ["pairs", "a", "b"] := ⟨PySem.W.mg_of X G a5, k5, b5⟩
  have F6 := fun_mk (st := s_longer_one_colored) l6 c6 k6
  have b6 := F6.binds (ps := ["pairs", "lots", "color"]) fun _ _ _ _ _ _ us hl => match us, hl with | [_, _, _], _ => rfl
  have C6 : Cal K mg "longer_one_colored" f6 _ ["pairs", "lots", "color"] := ⟨PySem.W.mg_of X G a6, k6, b6⟩
  have F7 := fun_mk (st := s_one_colored_lot) l7 c7 k7
  have b7 := F7.binds (ps := ["pairs", "k", "color"]) fun _ _ _ _ _ _ us hl => match us, hl with | [_, _, _], _ => rfl
  have C7 : Cal K mg "one_colored_lot" f7 _ ["pairs", "k", "color"] := ⟨PySem.W.mg_of X G a7, k7, b7⟩
  have F8 := fun_mk (st := s_color_paper) l8 c8 k8
  have b8 := F8.binds (ps := ["pairs", "sizes"]) fun _ _ _ _ _ _ us hl => match us, hl with | [_, _], _ => rfl
  have C8 : Cal K mg "color_paper" f8 _ ["pairs", "sizes"] := ⟨PySem.W.mg_of X G a8, k8, b8⟩
  have F9 := fun_mk (st := s_is_rising_lot) l9 c9 k9
  have b9 := F9.binds (ps := ["n", "value"]) fun _ _ _ _ _ _ us hl => match us, hl with | [_, _], _ => rfl
  have C9 : Cal K mg "is_rising_lot" f9 _ ["n", "value"] := ⟨PySem.W.mg_of X G a9, k9, b9⟩
  have F10 := fun_mk (st := s_first_other_pair) l10 c10 k10
  have b10 := F10.binds (ps := ["pairs", "color", "lot"]) fun _ _ _ _ _ _ us hl => match us, hl with | [_, _, _], _ => rfl
  have C10 : Cal K mg "first_other_pair" f10 _ ["pairs", "color", "lot"] := ⟨PySem.W.mg_of X G a10, k10, b10⟩
  have F11 := fun_mk (st := s_color_lot_fault) l11 c11 k11
  have b11 := F11.binds (ps := ["pairs", "sizes", "i", "lot"]) fun _ _ _ _ _ _ us hl => match us, hl with | [_, _, _, _], _ => rfl
  have C11 : Cal K mg "color_lot_fault" f11 _ ["pairs", "sizes", "i", "lot"] := ⟨PySem.W.mg_of X G a11, k11, b11⟩
  have F12 := fun_mk (st := s_judge_color) l12 c12 k12
  have b12 := F12.binds (ps := ["pairs", "sizes", "value"]) fun _ _ _ _ _ _ us hl => match us, hl with | [_, _, _], _ => rfl
  have C12 : Cal K mg "judge_color" f12 _ ["pairs", "sizes", "value"] := ⟨PySem.W.mg_of X G a12, k12, b12⟩
  have F13 := fun_mk (st := s__law_lots) l13 c13 k13
  have b13 := F13.binds (ps := ["n", "k"]) fun _ _ _ _ _ _ us hl => match us, hl with | [_, _], _ => rfl
  have C13 : Cal K mg "_law_lots" f13 _ ["n", "k"] := ⟨PySem.W.mg_of X G a13, k13, b13⟩
  have F14 := fun_mk (st := s__law_pairs) l14 c14 k14
  have b14 := F14.binds (ps := ["source", "n", "c"]) fun _ _ _ _ _ _ us hl => match us, hl with | [_, _, _], _ => rfl
  have C14 : Cal K mg "_law_pairs" f14 _ ["source", "n", "c"] := ⟨PySem.W.mg_of X G a14, k14, b14⟩
  have F15 := fun_mk (st := s__law_color) l15 c15 k15
  have b15 := F15.binds (ps := ["pairs", "a", "b"]) fun _ _ _ _ _ _ us hl => match us, hl with | [_, _, _], _ => rfl
  have C15 : Cal K mg "_law_color" f15 _ ["pairs", "a", "b"] := ⟨PySem.W.mg_of X G a15, k15, b15⟩
  have F16 := fun_mk (st := s__law_one) l16 c16 k16
  have b16 := F16.binds (ps := ["pairs", "lot", "color"]) fun _ _ _ _ _ _ us hl => match us, hl with | [_, _, _], _ => rfl
  have C16 : Cal K mg "_law_one" f16 _ ["pairs", "lot", "color"] := ⟨PySem.W.mg_of X G a16, k16, b16⟩
  have F17 := fun_mk (st := s__law_told) l17 c17 k17
  have b17 := F17.binds (ps := ["pairs", "sizes"]) fun _ _ _ _ _ _ us hl => match us, hl with | [_, _], _ => rfl
  have C17 : Cal K mg "_law_told" f17 _ ["pairs", "sizes"] := ⟨PySem.W.mg_of X G a17, k17, b17⟩
  have F18 := fun_mk (st := s__law_fault) l18 c18 k18
  have b18 := F18.binds (ps := ["pairs", "sizes", "value"]) fun _ _ _ _ _ _ us hl => match us, hl with | [_, _, _], _ => rfl
  have C18 : Cal K mg "_law_fault" f18 _ ["pairs", "sizes", "value"] := ⟨PySem.W.mg_of X G a18, k18, b18⟩
  have F19 := fun_mk (st := s_law) l19 c19 k19
  have b19 := F19.binds (ps := ["script"]) fun _ _ _ _ _ _ us hl => match us, hl with | [_], _ => rfl
  refine ⟨PySem.W.fnOf "law" "law" (defArgs s_law) (defBody s_law) (defScope s_law) .none kV19 dc19 pm19 an19 cd19 ct19, fun s v => .of_eq rfl, fun base _ _ => ?_⟩
  have G1 := ok_source (P := l.prog) (w := w) (base := base) F1 B.b_abs B.b_int
  have G2 := ok_pick (P := l.prog) (w := w) (base := base) F2 B.b_len B.b_int
  have G3 := ok_of (P := l.prog) (w := w) (base := base) F3 B C2 G2
  have G4 := ok_is_plain_count (P := l.prog) (w := w) (base := base) F4 B
  have G5 := ok_color_of_pair (P := l.prog) (w := w) (base := base) F5 B
  have G6 := ok_longer_one_colored (P := l.prog) (w := w) (base := base) F6 B C5 G5
  have G7 := ok_one_colored_lot (P := l.prog) (w := w) (base := base) F7 B C6 G6
  have G8 := ok_color_paper (P := l.prog) (w := w) (base := base) F8 B C7 G7
  have G9 := ok_is_rising_lot (P := l.prog) (w := w) (base := base) F9 B C4 G4
  have G10 := ok_first_other_pair (P := l.prog) (w := w) (base := base) F10 B C5 G5
  have G11 := ok_color_lot_fault (P := l.prog) (w := w) (base := base) F11 B C10 G10
  have G12 := ok_judge_color (P := l.prog) (w := w) (base := base) F12 B C8 G8 C4 G4 C9 G9 C11 G11
  have G13 := ok__law_lots (P := l.prog) (w := w) (base := base) F13 B
  have G14 := ok__law_pairs (P := l.prog) (w := w) (base := base) F14 B C2 G2
  have G15 := ok__law_color (P := l.prog) (w := w) (base := base) F15 B
  have G16 := ok__law_one (P := l.prog) (w := w) (base := base) F16 B C15 G15
  have G17 := ok__law_told (P := l.prog) (w := w) (base := base) F17 B C13 G13 C16 G16
  have G18 := ok__law_fault (P := l.prog) (w := w) (base := base) F18 B C17 G17 C15 G15
  exact ok_law (P := l.prog) (w := w) (base := base) F19 B C1 G1 C2 G2 C14 G14 C3 G3 C8 G8 C17 G17 C18 G18 C13 G13 C12 G12 p_law
end Lw
open PySem PySem.W PyProof.Rows
set_option maxHeartbeats 0 in
theorem PySem.Challenge.cw_lotsoflots_k80_whole_color_papers_holds : PySem.Challenge.rw_lotsoflots_k80_whole_color_papers.Holds := by
  w_on; o_law; k_head; (case hw => w_witness2)
  k_fill
  refine Pz.law_walk (l := PySem.Challenge.rw_lotsoflots_k80_whole_color_papers) (k := 6) (x := "script") rfl (by rfl) ⟨rfl, by decide, by decide⟩ (fun w h Y => PySem.W.kIn_of Y) ?F
  case F =>
    intro w mg fa h KX G hmg
    refine' Lw.all_mk KX G hmg ?a1 ?l1 ?c1 ?k1 ?a2 ?l2 ?c2 ?k2 ?a3 ?l3 ?c3 ?k3 ?a4 ?l4 ?c4 ?k4 ?a5 ?l5 ?c5 ?k5 ?a6 ?l6 ?c6 ?k6 ?a7 ?l7 ?c7 ?k7 ?a8 ?l8 ?c8 ?k8 ?a9 ?l9 ?c9 ?k9 ?a10 ?l10 ?c10 ?k10 ?a11 ?l11 ?c11 ?k11 ?a12 ?l12 ?c12 ?k12 ?a13 ?l13 ?c13 ?k13 ?a14 ?l14 ?c14 ?k14 ?a15 ?l15 ?c15 ?k15 ?a16 ?l16 ?c16 ?k16 ?a17 ?l17 ?c17 ?k17 ?a18 ?l18 ?c18 ?k18 ?a19 ?l19 ?c19 ?k19 ?z_len ?z_int ?z_abs ?z_range ?z_sorted ?z_sum ?z_all ?z_any ?z_tuple ?z_list ?z_max ?z_min ?z_repr ?z_enumerate ?z_zip ?z_isinstance ?z_bool ?z_str ?z_dict
    (case a1 => k_is); (case l1 => k_is); (case c1 => k_is); (case k1 => k_is); (case a2 => k_is); (case l2 => k_is); (case c2 => k_is); (case k2 => k_is); (case a3 => k_is); (case l3 => k_is); (case c3 => k_is); (case k3 => k_is); (case a4 => k_is); (case l4 => k_is); (case c4 => k_is); (case k4 => k_is); (case a5 => k_is); (case l5 => k_is); (case c5 => k_is); (case k5 => k_is); (case a6 => k_is); (case l6 => k_is); (case c6 => k_is); (case k6 => k_is); (case a7 => k_is); (case l7 => k_is); (case c7 => k_is); (case k7 => k_is); (case a8 => k_is); (case l8 => k_is); (case c8 => k_is); (case k8 => k_is); (case a9 => k_is); (case l9 => k_is); (case c9 => k_is); (case k9 => k_is); (case a10 => k_is); (case l10 => k_is); (case c10 => k_is); (case k10 => k_is); (case a11 => k_is); (case l11 => k_is); (case c11 => k_is); (case k11 => k_is); (case a12 => k_is); (case l12 => k_is); (case c12 => k_is); (case k12 => k_is); (case a13 => k_is); (case l13 => k_is); (case c13 => k_is); (case k13 => k_is); (case a14 => k_is); (case l14 => k_is); (case c14 => k_is); (case k14 => k_is); (case a15 => k_is); (case l15 => k_is); (case c15 => k_is); (case k15 => k_is); (case a16 => k_is); (case l16 => k_is); (case c16 => k_is); (case k16 => k_is); (case a17 => k_is); (case l17 => k_is); (case c17 => k_is); (case k17 => k_is); (case a18 => k_is); (case l18 => k_is); (case c18 => k_is); (case k18 => k_is); (case a19 => k_is); (case l19 => k_is); (case c19 => k_is); (case k19 => k_is); (case z_len => k_is); (case z_int => k_is); (case z_abs => k_is); (case z_range => k_is); (case z_sorted => k_is); (case z_sum => k_is); (case z_all => k_is); (case z_any => k_is); (case z_tuple => k_is); (case z_list => k_is); (case z_max => k_is); (case z_min => k_is); (case z_repr => k_is); (case z_enumerate => k_is); (case z_zip => k_is); (case z_isinstance => k_is); (case z_bool => k_is); (case z_str => k_is); (case z_dict => k_is)

