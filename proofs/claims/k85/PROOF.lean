import PyProof.Rows.All
import HandS.ForMost
import HandS.TupAny
import HandS.TupMul
import HandS.Deep
import HandS.Style
import HandS.Star
import HandS.Wide
import HandS.IsInst
import HandS.Flow
import HandS.Zip
import HandS.Conv
import HandS.Rev
import KE.SortData
import KE.DataMinMax
import KE.DataFind
import PyProof.ReprRoads
import KE.GoesEnum
import KE.KRevSl
import PySem.Challenge.RW_lotsoflots_k85_free_papers_judged
set_option Elab.async false
set_option linter.all false
set_option maxRecDepth 100000
set_option maxHeartbeats 4000000
/-! Pz: pure values over the hand layer: what an expression evaluates to, as a Lean function. -/
namespace Pz
open PySem PySem.Spec PyProof.Rows L2

/-! ### the monad -/
structure Src where
  cells : List Int
  left : Int
  mixed : Int
  turn : Int
abbrev M (α : Type) := Src → Option (α × Src)
def pureM {α : Type} (a : α) : M α := fun s => some (a, s)
def bindM {α β : Type} (m : M α) (f : α → M β) : M β := fun s => match m s with
  | some (a, s') => f a s'
  | none => none
def failM {α : Type} : M α := fun _ => none
def optM {α : Type} (o : Option α) : M α := fun s => match o with
  | some a => some (a, s)
  | none => none
@[simp] theorem bind_pure {α β : Type} (a : α) (f : α → M β) : bindM (pureM a) f = f a := rfl
@[simp] theorem bind_ret {α : Type} (m : M α) : bindM m (fun a => pureM a) = m := by
  funext s; unfold bindM; cases h : m s with
  | none => rfl
  | some p => rfl
@[simp] theorem bind_ret' {α : Type} (m : M α) : bindM m pureM = m := bind_ret m
@[simp] theorem bind_assoc {α β γ : Type} (m : M α) (f : α → M β) (g : β → M γ) : bindM (bindM m f) g = bindM m fun a => bindM (f a) g := by
  funext s; unfold bindM; cases h : m s with
  | none => rfl
  | some p => rfl
@[simp] theorem optM_some {α : Type} (a : α) : optM (some a) = pureM a := rfl
@[simp] theorem optM_none {α : Type} : optM (none : Option α) = failM := rfl
@[simp] theorem bind_fail {α β : Type} (f : α → M β) : bindM failM f = failM := rfl
theorem bind_some {α β : Type} {m : M α} {f : α → M β} {s t : Src} {b : β} (h : bindM m f s = some (b, t)) : ∃ a u, m s = some (a, u) ∧ f a u = some (b, t) := by
  unfold bindM at h
  cases e : m s with
  | none => rw [e] at h; cases h
  | some p => rw [e] at h; exact ⟨p.1, p.2, rfl, h⟩
theorem pure_some {α : Type} {a b : α} {s t : Src} (h : pureM a s = some (b, t)) : a = b ∧ s = t := by cases h; exact ⟨rfl, rfl⟩
theorem optM_inv {α : Type} {o : Option α} {b : α} {s t : Src} (h : optM o s = some (b, t)) : o = some b ∧ s = t := by
  cases o with
  | none => cases h
  | some a => cases h; exact ⟨rfl, rfl⟩
def mapM' {α β : Type} (f : α → M β) : List α → M (List β)
  | [] => pureM []
  | x :: xs => bindM (f x) fun y => bindM (mapM' f xs) fun ys => pureM (y :: ys)
def filterMapM' {α β : Type} (f : α → M (Option β)) : List α → M (List β)
  | [] => pureM []
  | x :: xs => bindM (f x) fun y => bindM (filterMapM' f xs) fun ys => pureM (match y with | some z => z :: ys | none => ys)
def forM' {β ι : Type} (f : β → ι → M β) : List ι → β → M β
  | [], b => pureM b
  | x :: xs, b => bindM (f b x) fun b' => forM' f xs b'
/-- the end of a block: it goes on, or it returns -/
inductive Out (ρ β : Type) where
  | nx (b : β) | rt (r : ρ)
def forO {ρ β ι : Type} (f : β → ι → M (Out ρ β)) : List ι → β → M (Out ρ β)
  | [], b => pureM (.nx b)
  | x :: xs, b => bindM (f b x) fun o => match o with
    | .nx b' => forO f xs b'
    | .rt r => pureM (.rt r)
def whileM {β : Type} (c : β → M Bool) (f : β → M β) : Nat → β → M β
  | 0, _ => failM
  | n + 1, b => bindM (c b) fun k => if k then bindM (f b) fun b' => whileM c f n b' else pureM b

/-! ### values of data in the abstract heap, apart from what is owned -/
abbrev Av := Addr → Prop
mutual
inductive Rp (A : Av) (H : Hp) : V → PyData → Prop
  | non : Rp A H .non .none
  | bl (b : Bool) : Rp A H (.bl b) (.bool b)
  | int (i : Int) : Rp A H (.int i) (.int i)
  | str (x : Str) : Rp A H (.str x) (.str x)
  | lst {a : Addr} {xs : List V} {ds : List PyData} : ¬ A a → H a = some (.lst xs) → RpAll A H xs ds → Rp A H (.ref a) (.list ds)
  | tup {a : Addr} {xs : List V} {ds : List PyData} : ¬ A a → H a = some (.tup xs) → RpAll A H xs ds → Rp A H (.ref a) (.tuple ds)
  | dic {a : Addr} : ¬ A a → H a = some (.dK []) → Rp A H (.ref a) (.dict [])
inductive RpAll (A : Av) (H : Hp) : List V → List PyData → Prop
  | nil : RpAll A H [] []
  | cons {v : V} {vs : List V} {d : PyData} {ds : List PyData} : Rp A H v d → RpAll A H vs ds → RpAll A H (v :: vs) (d :: ds)
end
section
variable {A A' : Av} {H H' : Hp}
mutual
theorem Rp.move (h : ∀ a o, ¬ A a → H a = some o → ¬ A' a ∧ H' a = some o) : ∀ (d : PyData) (v : V), Rp A H v d → Rp A' H' v d
  | .none, _, r => by cases r; exact .non
  | .bool b, _, r => by cases r; exact .bl b
  | .int i, _, r => by cases r; exact .int i
  | .str x, _, r => by cases r; exact .str x
  | .list ds, _, r => by
    cases r with
    | lst h1 h2 h3 => obtain ⟨a1, a2⟩ := h _ _ h1 h2; exact .lst a1 a2 (RpAll.move h ds _ h3)
  | .tuple ds, _, r => by
    cases r with
    | tup h1 h2 h3 => obtain ⟨a1, a2⟩ := h _ _ h1 h2; exact .tup a1 a2 (RpAll.move h ds _ h3)
  | .dict _, _, r => by
    cases r with
    | dic h1 h2 => obtain ⟨a1, a2⟩ := h _ _ h1 h2; exact .dic a1 a2
theorem RpAll.move (h : ∀ a o, ¬ A a → H a = some o → ¬ A' a ∧ H' a = some o) : ∀ (ds : List PyData) (vs : List V), RpAll A H vs ds → RpAll A' H' vs ds
  | [], _, r => by cases r; exact .nil
  | d :: ds, _, r => by
    cases r with
    | cons h1 h2 => exact .cons (Rp.move h d _ h1) (RpAll.move h ds _ h2)
end
theorem RpAll.length : ∀ {vs : List V} {ds : List PyData}, RpAll A H vs ds → vs.length = ds.length
  | _, [], r => by cases r; rfl
  | _, _ :: ds, r => by cases r with | cons _ h => simp [RpAll.length h]
theorem RpAll.append : ∀ {vs ws : List V} {ds es : List PyData}, RpAll A H vs ds → RpAll A H ws es → RpAll A H (vs ++ ws) (ds ++ es)
  | _, _, [], _, r, q => by cases r; exact q
  | _, _, _ :: _, _, r, q => by cases r with | cons h1 h2 => exact .cons h1 (h2.append q)
theorem RpAll.get : ∀ {vs : List V} {ds : List PyData} {i : Nat} {d : PyData}, RpAll A H vs ds → ds[i]? = some d → ∃ v, vs[i]? = some v ∧ Rp A H v d
  | _, [], _, _, _, e => by simp at e
  | _, _ :: _, 0, _, r, e => by cases r with | cons h1 _ => simp at e; subst e; exact ⟨_, rfl, h1⟩
  | _, _ :: _, i + 1, _, r, e => by cases r with | cons _ h2 => simpa using RpAll.get h2 (by simpa using e)
theorem RpAll.getV : ∀ {vs : List V} {ds : List PyData} {i : Nat} {v : V}, RpAll A H vs ds → vs[i]? = some v → ∃ d, ds[i]? = some d ∧ Rp A H v d
  | _, [], _, _, r, e => by cases r; simp at e
  | _, _ :: _, 0, _, r, e => by cases r with | cons h1 _ => simp at e; subst e; exact ⟨_, rfl, h1⟩
  | _, _ :: _, i + 1, _, r, e => by cases r with | cons _ h2 => simpa using RpAll.getV h2 (by simpa using e)
theorem RpAll.take : ∀ {vs : List V} {ds : List PyData} (n : Nat), RpAll A H vs ds → RpAll A H (vs.take n) (ds.take n)
  | _, _, 0, _ => .nil
  | _, [], _ + 1, r => by cases r; exact .nil
  | _, _ :: _, n + 1, r => by cases r with | cons h1 h2 => exact .cons h1 (h2.take n)
theorem RpAll.drop : ∀ {vs : List V} {ds : List PyData} (n : Nat), RpAll A H vs ds → RpAll A H (vs.drop n) (ds.drop n)
  | _, _, 0, r => r
  | _, [], _ + 1, r => by cases r; exact .nil
  | _, _ :: _, n + 1, r => by cases r with | cons h1 h2 => exact h2.drop n
theorem RpAll.reverse : ∀ {vs : List V} {ds : List PyData}, RpAll A H vs ds → RpAll A H vs.reverse ds.reverse
  | _, [], r => by cases r; exact .nil
  | _, _ :: _, r => by cases r with | cons h1 h2 => rw [List.reverse_cons, List.reverse_cons]; exact h2.reverse.append (.cons h1 .nil)
theorem RpAll.set : ∀ {vs : List V} {ds : List PyData} {v : V} {d : PyData} (i : Nat), RpAll A H vs ds → Rp A H v d → RpAll A H (vs.set i v) (ds.set i d)
  | _, [], _, _, _, r, _ => by cases r; exact .nil
  | _, _ :: _, _, _, 0, r, q => by cases r with | cons _ h2 => exact .cons q h2
  | _, _ :: _, _, _, i + 1, r, q => by cases r with | cons h1 h2 => exact .cons h1 (h2.set i q)
end

/-- all but Z is as it was -/
def Keep (A : Av) (H H' : Hp) : Prop := ∀ a o, ¬ A a → H a = some o → H' a = some o
theorem Keep.refl {A : Av} (H : Hp) : Keep A H H := fun _ _ _ h => h
theorem Keep.trans {A : Av} {H H1 H2 : Hp} (a : Keep A H H1) (b : Keep A H1 H2) : Keep A H H2 := fun c o n h => b c o n (a c o n h)
theorem Keep.mono {A B : Av} {H H1 : Hp} (a : Keep A H H1) (h : ∀ x, A x → B x) : Keep B H H1 := fun c o n e => a c o (fun q => n (h c q)) e
theorem Keep.of_same {A : Av} {H H1 : Hp} (a : Same H H1) : Keep A H H1 := fun c o _ e => a c o e
theorem Rp.keep {A : Av} {H H' : Hp} {v : V} {d : PyData} (r : Rp A H v d) (k : Keep A H H') : Rp A H' v d := Rp.move (fun a o n e => ⟨n, k a o n e⟩) d v r
theorem RpAll.keep {A : Av} {H H' : Hp} {vs : List V} {ds : List PyData} (r : RpAll A H vs ds) (k : Keep A H H') : RpAll A H' vs ds := RpAll.move (fun a o n e => ⟨n, k a o n e⟩) ds vs r
theorem Rp.less {A B : Av} {H : Hp} {v : V} {d : PyData} (r : Rp A H v d) (h : ∀ x, B x → A x) : Rp B H v d := Rp.move (fun a o n e => ⟨fun q => n (h a q), e⟩) d v r
theorem RpAll.less {A B : Av} {H : Hp} {vs : List V} {ds : List PyData} (r : RpAll A H vs ds) (h : ∀ x, B x → A x) : RpAll B H vs ds := RpAll.move (fun a o n e => ⟨fun q => n (h a q), e⟩) ds vs r

theorem Rp.at {A : Av} {H H' : Hp} {p : Addr} {v : V} {d : PyData} (r : Rp A H v d) (n : H p = none) (k : Keep A H H') : Rp (fun a => A a ∨ a = p) H' v d :=
  Rp.move (fun a o na e => ⟨fun z => z.elim na (fun z => by rw [z, n] at e; cases e), k a o na e⟩) d v r
theorem RpAll.at {A : Av} {H H' : Hp} {p : Addr} {vs : List V} {ds : List PyData} (r : RpAll A H vs ds) (n : H p = none) (k : Keep A H H') : RpAll (fun a => A a ∨ a = p) H' vs ds :=
  RpAll.move (fun a o na e => ⟨fun z => z.elim na (fun z => by rw [z, n] at e; cases e), k a o na e⟩) ds vs r

/-! ### the resource: where the draws stand -/
abbrev Res := Option (Addr × Addr)
def Zr : Res → Av
  | none => fun _ => False
  | some (a, c) => fun x => x = a ∨ x = c
structure SrcAt (a c : Addr) (st : Src) (H : Hp) : Prop where
  dic : H a = some (.dK [(.inr "cells", .ref c), (.inr "left", .int st.left), (.inr "mixed", .int st.mixed), (.inr "turn", .int st.turn)])
  cel : H c = some (.lst (st.cells.map V.int))
  ne : a ≠ c
def okR (R : Res) (st : Src) (H : Hp) : Prop := match R with
  | none => True
  | some (a, c) => SrcAt a c st H
theorem okR.dom {R : Res} {st : Src} {H : Hp} (k : okR R st H) {a : Addr} (z : Zr R a) : H a ≠ none := by
  cases R with
  | none => exact z.elim
  | some p =>
    obtain ⟨b, c⟩ := p
    rcases z with e | e
    · rw [e, (show SrcAt b c st H from k).dic]; simp
    · rw [e, (show SrcAt b c st H from k).cel]; simp
theorem okR.keep {R : Res} {st : Src} {H H' : Hp} (k : okR R st H) (h : ∀ a o, Zr R a → H a = some o → H' a = some o) : okR R st H' := by
  cases R with
  | none => trivial
  | some p =>
    obtain ⟨b, c⟩ := p
    have k : SrcAt b c st H := k
    exact (⟨h _ _ (.inl rfl) k.dic, h _ _ (.inr rfl) k.cel, k.ne⟩ : SrcAt b c st H')
theorem okR.same {R : Res} {st : Src} {H H' : Hp} (k : okR R st H) (h : Same H H') : okR R st H' := k.keep fun a o _ e => h a o e

/-! ### slots -/
inductive Slot where
  | un | fz (d : PyData) | ow (d : PyData) | src
def avo (O : Av) (Γ : List Slot) (ow : Nat → Addr) : Av := fun a => O a ∨ ∃ (i : Nat) (d : PyData), Γ[i]? = some (.ow d) ∧ ow i = a
def OwnAt (A : Av) (H : Hp) (p : Addr) : PyData → Prop
  | .list ds => ∃ vs, H p = some (.lst vs) ∧ RpAll A H vs ds
  | _ => False
structure Rel (R : Res) (O : Av) (H0 : Hp) (ow : Nat → Addr) (Γ : List Slot) (σ : L2.St) (H : Hp) : Prop where
  len : Γ.length = σ.length
  hfz : ∀ (i : Nat) (d : PyData), Γ[i]? = some (.fz d) → ∃ v, σ[i]? = some (some v) ∧ Rp (avo O Γ ow) H v d
  how : ∀ (i : Nat) (d : PyData), Γ[i]? = some (.ow d) → σ[i]? = some (some (.ref (ow i))) ∧ OwnAt (avo O Γ ow) H (ow i) d ∧ ¬ O (ow i) ∧ H0 (ow i) = none
  hsrc : ∀ (i : Nat), Γ[i]? = some .src → ∃ a c, R = some (a, c) ∧ σ[i]? = some (some (.ref a))
  hinj : ∀ (i j : Nat) (d d' : PyData), Γ[i]? = some (.ow d) → Γ[j]? = some (.ow d') → ow i = ow j → i = j
  same : Keep (Zr R) H0 H
  zsub : ∀ a, Zr R a → O a
  odom : ∀ a, O a → H a ≠ none
theorem OwnAt.keep {A : Av} {H H' : Hp} {p : Addr} {d : PyData} (h : OwnAt A H p d) (k : Keep A H H') (e : ∀ o, H p = some o → H' p = some o) : OwnAt A H' p d := by
  cases d with
  | list ds => obtain ⟨vs, a, b⟩ := h; exact ⟨vs, e _ a, b.keep k⟩
  | _ => exact h.elim
theorem OwnAt.dom {A : Av} {H : Hp} {p : Addr} {d : PyData} (h : OwnAt A H p d) : H p ≠ none := by
  cases d with
  | list ds => obtain ⟨vs, a, b⟩ := h; rw [a]; simp
  | _ => exact h.elim
section
variable {R : Res} {O : Av} {H0 H H' : Hp} {ow : Nat → Addr} {Γ : List Slot} {σ : L2.St}
theorem Rel.adom (r : Rel R O H0 ow Γ σ H) {a : Addr} (h : avo O Γ ow a) : H a ≠ none := by
  rcases h with h | ⟨i, d, e, rfl⟩
  · exact r.odom a h
  · exact (r.how i d e).2.1.dom
theorem Rel.zavo (r : Rel R O H0 ow Γ σ H) {a : Addr} (h : Zr R a) : avo O Γ ow a := .inl (r.zsub a h)
theorem Rel.keepA (r : Rel R O H0 ow Γ σ H) (k : Keep (Zr R) H H') : Keep (avo O Γ ow) H H' := k.mono fun _ z => r.zavo z
/-- the heap has grown (and the draws have gone on) -/
theorem Rel.grow (r : Rel R O H0 ow Γ σ H) (k : Keep (Zr R) H H') (z : ∀ a, Zr R a → H' a ≠ none) : Rel R O H0 ow Γ σ H' where
  len := r.len
  hfz := fun i d e => let ⟨v, e1, h⟩ := r.hfz i d e; ⟨v, e1, h.keep (r.keepA k)⟩
  how := fun i d e => let ⟨e1, h, n, f⟩ := r.how i d e; ⟨e1, h.keep (r.keepA k) fun o q => k _ o (fun z => n (r.zsub _ z)) q, n, f⟩
  hsrc := r.hsrc
  hinj := r.hinj
  same := r.same.trans k
  zsub := r.zsub
  odom := fun a h => by
    by_cases z1 : Zr R a
    · exact z a z1
    · cases e : H a with
      | none => exact absurd e (r.odom a h)
      | some o => rw [k a o z1 e]; simp
end

/-! ### encodings -/
def eInt (i : Int) : PyData := .int i
def eBool (b : Bool) : PyData := .bool b
def eStr (x : Str) : PyData := .str x
def eNon (_ : Unit) : PyData := .none
def eL {α : Type} (e : α → PyData) (xs : List α) : PyData := .list (xs.map e)
def eT {α : Type} (e : α → PyData) (xs : List α) : PyData := .tuple (xs.map e)
def eO {α : Type} (e : α → PyData) : Option α → PyData
  | none => .none
  | some a => e a
def eD (d : PyData) : PyData := d
/-- tuples of a written length -/
def eU (_ : Unit) : List PyData := []
def eC {α β : Type} (e : α → PyData) (f : β → List PyData) (p : α × β) : List PyData := e p.1 :: f p.2
def eP {α : Type} (f : α → List PyData) (p : α) : PyData := .tuple (f p)

/-! ### the judgements -/
section
variable {α β : Type}
def tE (R : Res) (Γ : List Slot) (enc : α → PyData) (m : M α) : TE := fun σ H Q => ∃ O H0 ow st r st', Rel R O H0 ow Γ σ H ∧ okR R st H ∧ m st = some (r, st') ∧
  ∀ v H', Keep (Zr R) H H' → okR R st' H' → Rp (avo O Γ ow) H' v (enc r) → Q v H'
/-- and one place more -/
def avp (A : Av) (p : Addr) : Av := fun a => A a ∨ a = p
/-- a new list -/
def tF (R : Res) (Γ : List Slot) (enc : α → PyData) (m : M (List α)) : TE := fun σ H Q => ∃ O H0 ow st r st', Rel R O H0 ow Γ σ H ∧ okR R st H ∧ m st = some (r, st') ∧
  ∀ p vs H', H p = none → Keep (Zr R) H H' → okR R st' H' → H' p = some (.lst vs) → RpAll (avp (avo O Γ ow) p) H' vs (r.map enc) → Q (.ref p) H'
def tT (R : Res) (Γ : List Slot) (m : M Bool) : TT := fun σ H Q => ∃ O H0 ow st r st', Rel R O H0 ow Γ σ H ∧ okR R st H ∧ m st = some (r, st') ∧
  ∀ H', Keep (Zr R) H H' → okR R st' H' → Q r H'
/-- an argument: data, or the draws -/
def RpS (R : Res) (A : Av) (H : Hp) (v : V) : Slot → Prop
  | .fz d => Rp A H v d
  | .src => ∃ a c, R = some (a, c) ∧ v = .ref a
  | _ => False
inductive RpSs (R : Res) (A : Av) (H : Hp) : List V → List Slot → Prop
  | nil : RpSs R A H [] []
  | cons {v : V} {vs : List V} {d : Slot} {ds : List Slot} : RpS R A H v d → RpSs R A H vs ds → RpSs R A H (v :: vs) (d :: ds)
def tA (R : Res) (Γ : List Slot) (enc : α → List Slot) (m : M α) : TA := fun σ H Q => ∃ O H0 ow st r st', Rel R O H0 ow Γ σ H ∧ okR R st H ∧ m st = some (r, st') ∧
  ∀ vs H', Keep (Zr R) H H' → okR R st' H' → RpSs R (avo O Γ ow) H' vs (enc r) → Q vs H'
end
/-- the end of a block -/
inductive OutD where
  | nx (Γ : List Slot) | rt (d : PyData)
/-- what a block may change: what it owns -/
structure Step (O : Av) (Γ : List Slot) (ow : Nat → Addr) (H : Hp) (Γ' : List Slot) (ow' : Nat → Addr) (H' : Hp) : Prop where
  keep : Keep (avo O Γ ow) H H'
  sub : ∀ (i : Nat) (d : PyData), Γ'[i]? = some (.ow d) → avo O Γ ow (ow' i) ∨ H (ow' i) = none
def tS {κ : Type} (R : Res) (Γ : List Slot) (out : κ → OutD) (m : M κ) : TS := fun D σ H => ∃ O H0 ow st r st', Rel R O H0 ow Γ σ H ∧ okR R st H ∧ m st = some (r, st') ∧
  match out r with
  | .nx Γ' => ∀ ow' σ' H', Rel R O H0 ow' Γ' σ' H' → okR R st' H' → Step O Γ ow H Γ' ow' H' → D.nx σ' H'
  | .rt d => ∀ v H', Keep (Zr R) H0 H' → okR R st' H' → Rp O H' v d → D.rt v H'

section
variable {X : Cx} {e : Expr} {t t' : TE}
theorem PE.weak (h : PE X e t) (w : ∀ σ H Q, t' σ H Q → t σ H Q) : PE X e t' := ⟨fun pins s σ H Q I q => h.run pins s σ H Q I (w σ H Q q)⟩
theorem PE.ex {ι : Type} {t : ι → TE} (h : ∀ x, PE X e (t x)) : PE X e (fun σ H Q => ∃ x, t x σ H Q) := ⟨fun pins s σ H Q I ⟨x, q⟩ => (h x).run pins s σ H Q I q⟩
theorem PT.weak {t t' : TT} (h : PT X e t) (w : ∀ σ H Q, t' σ H Q → t σ H Q) : PT X e t' := ⟨fun pins s σ H Q I q => h.run pins s σ H Q I (w σ H Q q)⟩
theorem PT.ex {ι : Type} {t : ι → TT} (h : ∀ x, PT X e (t x)) : PT X e (fun σ H Q => ∃ x, t x σ H Q) := ⟨fun pins s σ H Q I ⟨x, q⟩ => (h x).run pins s σ H Q I q⟩
theorem PW.weak {t t' : TT} (h : PW X e t) (w : ∀ σ H Q, t' σ H Q → t σ H Q) : PW X e t' := ⟨fun wh pins s σ H Q I q => h.run wh pins s σ H Q I (w σ H Q q)⟩
theorem PA.weak {es : List Expr} {t t' : TA} (h : PA X es t) (w : ∀ σ H Q, t' σ H Q → t σ H Q) : PA X es t' := ⟨fun pos pins s σ H Q I q => h.run pos pins s σ H Q I (w σ H Q q)⟩
theorem PS.weak {st : Stmt} {t t' : TS} (h : PS X st t) (w : ∀ D σ H, t' D σ H → t D σ H) : PS X st t' := ⟨fun pins s σ H D I q => h.run pins s σ H D I (w D σ H q)⟩
theorem PSs.weak {st : List Stmt} {t t' : TS} (h : PSs X st t) (w : ∀ D σ H, t' D σ H → t D σ H) : PSs X st t' := ⟨fun pins s σ H D I q => h.run pins s σ H D I (w D σ H q)⟩
theorem PSs.ex {ι : Type} {st : List Stmt} {t : ι → TS} (h : ∀ x, PSs X st (t x)) : PSs X st (fun D σ H => ∃ x, t x D σ H) := ⟨fun pins s σ H D I ⟨x, q⟩ => (h x).run pins s σ H D I q⟩
theorem PG.weak {t t' : TG} (h : PG X e t) (w : ∀ v σ H Q, t' v σ H Q → t v σ H Q) : PG X e t' := ⟨fun pins s σ H v u Q I r q => h.run pins s σ H v u Q I r (w v σ H Q q)⟩
end
abbrev EJ {α : Type} (X : Cx) (R : Res) (Γ : List Slot) (e : Expr) (enc : α → PyData) (m : M α) : Prop := PE X e (tE R Γ enc m)
abbrev EF {α : Type} (X : Cx) (R : Res) (Γ : List Slot) (e : Expr) (enc : α → PyData) (m : M (List α)) : Prop := PE X e (tF R Γ enc m)
abbrev TJ (X : Cx) (R : Res) (Γ : List Slot) (e : Expr) (m : M Bool) : Prop := PT X e (tT R Γ m)
abbrev AJ {α : Type} (X : Cx) (R : Res) (Γ : List Slot) (es : List Expr) (enc : α → List Slot) (m : M α) : Prop := PA X es (tA R Γ enc m)
abbrev SJ {κ : Type} (X : Cx) (R : Res) (Γ : List Slot) (st : List Stmt) (out : κ → OutD) (m : M κ) : Prop := PSs X st (tS R Γ out m)
end Pz

namespace Pz
open PySem PySem.Spec PyProof.Rows L2

/-! ### what a step hands back -/
def Post {γ : Type} (A : Av) (H : Hp) (ec : γ → PyData) (z : γ) (Q : VK) : Prop := ∀ v H', Same H H' → Rp A H' v (ec z) → Q v H'
def PostF {γ : Type} (A : Av) (H : Hp) (ec : γ → PyData) (z : List γ) (Q : VK) : Prop := ∀ p vs H', H p = none → Same H H' → H' p = some (.lst vs) → RpAll (avp A p) H' vs (z.map ec) → Q (.ref p) H'
def Adom (A : Av) (H : Hp) : Prop := ∀ a, A a → H a ≠ none
section
variable {α β γ δ : Type} {ea : α → PyData} {eb : β → PyData} {ec : γ → PyData} {ed : δ → PyData} {A : Av} {H H' : Hp}
theorem Adom.same (h : Adom A H) (s : Same H H') : Adom A H' := fun a z => by
  cases e : H a with
  | none => exact absurd e (h a z)
  | some o => rw [s a o e]; simp
theorem Adom.fresh (h : Adom A H) {p : Addr} (n : H p = none) : ¬ A p := fun z => h p z n
theorem PostF.toE {z : List γ} {Q : VK} (h : Post A H (eL ec) z Q) (ad : Adom A H) : PostF A H ec z Q := fun p vs H' n s e r => h _ _ s (.lst (ad.fresh n) e (r.less fun _ z => .inl z))
theorem same_new {H : Hp} {p : Addr} {o : HO} (h : H p = none) : Same H (upd H p o) := fun b x e => by rw [upd_ne (ne_of_none e h)]; exact e
/-- a two-place step by values -/
def VOp (r : R2) (ea : α → PyData) (eb : β → PyData) (ec : γ → PyData) (f : α → β → Option γ) : Prop :=
  ∀ (A : Av) (H : Hp) x y vx vy Q z, Adom A H → Rp A H vx (ea x) → Rp A H vy (eb y) → f x y = some z → Post A H ec z Q → r vx vy H Q
def VOpF (r : R2) (ea : α → PyData) (eb : β → PyData) (ec : γ → PyData) (f : α → β → Option (List γ)) : Prop :=
  ∀ (A : Av) (H : Hp) x y vx vy Q z, Adom A H → Rp A H vx (ea x) → Rp A H vy (eb y) → f x y = some z → PostF A H ec z Q → r vx vy H Q
def V1 (r : V → Hp → VK → Prop) (ea : α → PyData) (ec : γ → PyData) (f : α → Option γ) : Prop :=
  ∀ (A : Av) (H : Hp) x vx Q z, Adom A H → Rp A H vx (ea x) → f x = some z → Post A H ec z Q → r vx H Q
def V1F (r : V → Hp → VK → Prop) (ea : α → PyData) (ec : γ → PyData) (f : α → Option (List γ)) : Prop :=
  ∀ (A : Av) (H : Hp) x vx Q z, Adom A H → Rp A H vx (ea x) → f x = some z → PostF A H ec z Q → r vx H Q
end

section
variable {α β γ δ : Type} {ea : α → PyData} {eb : β → PyData} {ec : γ → PyData} {ed : δ → PyData} {X : Cx} {R : Res} {Γ : List Slot} {e a b c : Expr} {pos : Pos}
theorem Rel.ad {O : Av} {H0 H : Hp} {ow : Nat → Addr} {σ : L2.St} (r : Rel R O H0 ow Γ σ H) : Adom (avo O Γ ow) H := fun _ z => r.adom z
theorem okZ {st : Src} {H : Hp} (k : okR R st H) : ∀ a, Zr R a → H a ≠ none := fun _ z => k.dom z

/-! ### names and constants -/
theorem e_var (i : Nat) {α : Type} (enc : α → PyData) (r : α) {x : Str} (hΓ : Γ[i]? = some (.fz (enc r)) := by rfl) (hN : X.N[i]? = some x := by rfl)
    (hv : Vis X.env.scope x := by first | exact Or.inl rfl | exact Or.inr (Or.inl rfl) | exact Or.inr (Or.inr rfl)) (hd : (x == ("__debug__" : Str)) = false := by decide)
    (hcd : (x == ("__classdict__" : Str)) = false := by decide) : EJ X R Γ (.Name x pos) enc (pureM r) := by
  refine PE.weak (pe_var hN hv hd hcd) fun σ H Q ⟨O, H0, ow, st, r', st', rel, ok, e, q⟩ => ?_
  obtain ⟨rfl, rfl⟩ := pure_some e
  obtain ⟨v, e1, rp⟩ := rel.hfz i _ hΓ
  exact ⟨v, e1, q v H (Keep.refl H) ok rp⟩
/-- an own list, read as it stands, handed on as data without lists in it: see e_borrow -/
theorem e_const {α : Type} {enc : α → PyData} {r : α} {v : V} (h : PE X e (tC v)) (hr : ∀ A H, Rp A H v (enc r)) : EJ X R Γ e enc (pureM r) := by
  refine PE.weak h fun σ H Q ⟨O, H0, ow, st, r', st', rel, ok, e, q⟩ => ?_
  obtain ⟨rfl, rfl⟩ := pure_some e
  exact q v H (Keep.refl H) ok (hr _ _)
theorem e_int {i j} : EJ X R Γ (.Constant (.int i) j pos) eInt (pureM i) := e_const pe_int fun _ _ => .int i
theorem e_bool {b j} : EJ X R Γ (.Constant (.bool b) j pos) eBool (pureM b) := e_const pe_bl fun _ _ => .bl b
theorem e_str {x j} : EJ X R Γ (.Constant (.str x) j pos) eStr (pureM x) := e_const pe_str fun _ _ => .str x
theorem e_non {j} : EJ X R Γ (.Constant .none j pos) eNon (pureM ()) := e_const pe_non fun _ _ => .non

/-! ### another encoding of the same -/
theorem e_enc {α β : Type} {ea : α → PyData} {eb : β → PyData} {m : M α} (f : α → β) (h : EJ X R Γ e ea m) (hf : ∀ x, ea x = eb (f x)) : EJ X R Γ e eb (bindM m fun x => pureM (f x)) := by
  refine PE.weak h fun σ H Q ⟨O, H0, ow, st, r', st', rel, ok, e, q⟩ => ?_
  obtain ⟨x, u, e1, e2⟩ := bind_some e
  obtain ⟨rfl, rfl⟩ := pure_some e2
  exact ⟨O, H0, ow, st, x, u, rel, ok, e1, fun v H' k o r => q v H' k o (by rw [← hf]; exact r)⟩
theorem e_as {α β : Type} {ea : α → PyData} {eb : β → PyData} (f : α → β) {m : M α} {m' : M β} (h : EJ X R Γ e ea m) (hf : ∀ x, ea x = eb (f x)) (hm : m' = bindM m fun x => pureM (f x)) : EJ X R Γ e eb m' := hm ▸ e_enc f h hf
theorem f_e {m : M (List γ)} (h : EF X R Γ e ec m) : EJ X R Γ e (eL ec) m := by
  refine PE.weak h fun σ H Q ⟨O, H0, ow, st, r', st', rel, ok, e, q⟩ => ⟨O, H0, ow, st, r', st', rel, ok, e, fun p vs H' n k o e1 r => ?_⟩
  exact q _ _ k o (.lst (rel.ad.fresh n) e1 (r.less fun _ z => .inl z))
theorem f_enc {α β : Type} {ea : α → PyData} {eb : β → PyData} {m : M (List α)} (f : α → β) (h : EF X R Γ e ea m) (hf : ∀ x, ea x = eb (f x)) : EF X R Γ e eb (bindM m fun x => pureM (x.map f)) := by
  refine PE.weak h fun σ H Q ⟨O, H0, ow, st, r', st', rel, ok, e, q⟩ => ?_
  obtain ⟨x, u, e1, e2⟩ := bind_some e
  obtain ⟨rfl, rfl⟩ := pure_some e2
  refine ⟨O, H0, ow, st, x, u, rel, ok, e1, fun p vs H' n k o e r => q p vs H' n k o e ?_⟩
  rw [List.map_map, show eb ∘ f = ea from funext fun x => (hf x).symm]
  exact r
/-- the same computation, otherwise written -/
theorem e_eq {α : Type} {enc : α → PyData} {m m' : M α} (h : EJ X R Γ e enc m) (hm : m' = m) : EJ X R Γ e enc m' := hm ▸ h
theorem f_eq {α : Type} {enc : α → PyData} {m m' : M (List α)} (h : EF X R Γ e enc m) (hm : m' = m) : EF X R Γ e enc m' := hm ▸ h

/-! ### steps by values -/
theorem keepS {H H1 H2 : Hp} {A : Av} (k : Keep A H H1) (s : Same H1 H2) : Keep A H H2 := k.trans (Keep.of_same s)
theorem noneK {H H1 : Hp} {p : Addr} {st : Src} (k : Keep (Zr R) H H1) (o : okR R st H1) (n : H1 p = none) : H p = none := by
  cases e : H p with
  | none => rfl
  | some u =>
    by_cases z : Zr R p
    · exact absurd n (o.dom z)
    · rw [k p u z e] at n; cases n
/-- two operands, then a step -/
theorem e_two {r : R2} {ma : M α} {mb : M β} {f : α → β → Option γ} (h : PE X e (tOp r (tE R Γ ea ma) (tE R Γ eb mb))) (hv : VOp r ea eb ec f) : EJ X R Γ e ec (bindM ma fun x => bindM mb fun y => optM (f x y)) := by
  refine PE.weak h fun σ H Q ⟨O, H0, ow, st, z, st', rel, ok, e, q⟩ => ?_
  obtain ⟨x, s1, e1, e'⟩ := bind_some e
  obtain ⟨y, s2, e2, e3⟩ := bind_some e'
  obtain ⟨e4, rfl⟩ := optM_inv e3
  refine ⟨O, H0, ow, st, x, s1, rel, ok, e1, fun vx H1 k1 o1 r1 => ?_⟩
  refine ⟨O, H0, ow, s1, y, s2, rel.grow k1 (okZ o1), o1, e2, fun vy H2 k2 o2 r2 => ?_⟩
  have rel2 := (rel.grow k1 (okZ o1)).grow k2 (okZ o2)
  exact hv (avo O Γ ow) H2 x y vx vy Q z rel2.ad (r1.keep ((rel.grow k1 (okZ o1)).keepA k2)) r2 e4 fun v H3 s3 r3 => q v H3 ((k1.trans k2).trans (Keep.of_same s3)) (o2.same s3) r3
theorem f_two {r : R2} {ma : M α} {mb : M β} {f : α → β → Option (List γ)} (h : PE X e (tOp r (tE R Γ ea ma) (tE R Γ eb mb))) (hv : VOpF r ea eb ec f) : EF X R Γ e ec (bindM ma fun x => bindM mb fun y => optM (f x y)) := by
  refine PE.weak h fun σ H Q ⟨O, H0, ow, st, z, st', rel, ok, e, q⟩ => ?_
  obtain ⟨x, s1, e1, e'⟩ := bind_some e
  obtain ⟨y, s2, e2, e3⟩ := bind_some e'
  obtain ⟨e4, rfl⟩ := optM_inv e3
  refine ⟨O, H0, ow, st, x, s1, rel, ok, e1, fun vx H1 k1 o1 r1 => ?_⟩
  refine ⟨O, H0, ow, s1, y, s2, rel.grow k1 (okZ o1), o1, e2, fun vy H2 k2 o2 r2 => ?_⟩
  have rel2 := (rel.grow k1 (okZ o1)).grow k2 (okZ o2)
  exact hv (avo O Γ ow) H2 x y vx vy Q z rel2.ad (r1.keep ((rel.grow k1 (okZ o1)).keepA k2)) r2 e4 fun p vs H3 n s3 e r3 => q p vs H3 (noneK (k1.trans k2) o2 n) ((k1.trans k2).trans (Keep.of_same s3)) (o2.same s3) e r3
theorem t_two {r : R2} {ma : M α} {mb : M β} {f : α → β → Option Bool} (h : PT X e (tTest (tOp r (tE R Γ ea ma) (tE R Γ eb mb)))) (hv : VOp r ea eb eBool f) : TJ X R Γ e (bindM ma fun x => bindM mb fun y => optM (f x y)) := by
  refine PT.weak h fun σ H Q ⟨O, H0, ow, st, z, st', rel, ok, e, q⟩ => ?_
  obtain ⟨x, s1, e1, e'⟩ := bind_some e
  obtain ⟨y, s2, e2, e3⟩ := bind_some e'
  obtain ⟨e4, rfl⟩ := optM_inv e3
  refine ⟨O, H0, ow, st, x, s1, rel, ok, e1, fun vx H1 k1 o1 r1 => ?_⟩
  refine ⟨O, H0, ow, s1, y, s2, rel.grow k1 (okZ o1), o1, e2, fun vy H2 k2 o2 r2 => ?_⟩
  have rel2 := (rel.grow k1 (okZ o1)).grow k2 (okZ o2)
  exact hv (avo O Γ ow) H2 x y vx vy _ z rel2.ad (r1.keep ((rel.grow k1 (okZ o1)).keepA k2)) r2 e4 fun v H3 s3 r3 => by
    cases r3
    exact ⟨z, rfl, q H3 ((k1.trans k2).trans (Keep.of_same s3)) (o2.same s3)⟩
theorem e_bin {op : Operator} {r : R2} {ma : M α} {mb : M β} {f : α → β → Option γ} (ho : OpR X (binaryOp op) r) (hv : VOp r ea eb ec f) (ha : EJ X R Γ a ea ma) (hb : EJ X R Γ b eb mb) : EJ X R Γ (.BinOp a op b pos) ec (bindM ma fun x => bindM mb fun y => optM (f x y)) := e_two (pe_op ho ha hb) hv
theorem f_bin {op : Operator} {r : R2} {ma : M α} {mb : M β} {f : α → β → Option (List γ)} (ho : OpR X (binaryOp op) r) (hv : VOpF r ea eb ec f) (ha : EJ X R Γ a ea ma) (hb : EJ X R Γ b eb mb) : EF X R Γ (.BinOp a op b pos) ec (bindM ma fun x => bindM mb fun y => optM (f x y)) := f_two (pe_op ho ha hb) hv
theorem e_cmp {op : CmpOp} {r : R2} {ma : M α} {mb : M β} {f : α → β → Option Bool} (ho : OpR X (compareOp op) r) (hv : VOp r ea eb eBool f) (ha : EJ X R Γ a ea ma) (hb : EJ X R Γ b eb mb) (hm : behindInMarks op b = false := by first | exact nomark _ | rfl) :
    EJ X R Γ (.Compare a [op] [b] pos) eBool (bindM ma fun x => bindM mb fun y => optM (f x y)) := e_two (pe_cmpR ho ha hb hm) hv
theorem t_cmp {op : CmpOp} {r : R2} {ma : M α} {mb : M β} {f : α → β → Option Bool} (ho : OpR X (compareOp op) r) (hv : VOp r ea eb eBool f) (ha : EJ X R Γ a ea ma) (hb : EJ X R Γ b eb mb) (hm : behindInMarks op b = false := by first | exact nomark _ | rfl) :
    TJ X R Γ (.Compare a [op] [b] pos) (bindM ma fun x => bindM mb fun y => optM (f x y)) := t_two (pt_cmpR ho ha hb hm) hv
theorem e_ix {r : R2} {ma : M α} {mb : M β} {f : α → β → Option γ} (ho : IxR X r) (hv : VOp r ea eb ec f) (ha : EJ X R Γ a ea ma) (hb : EJ X R Γ b eb mb) (hs : PlainIx b := by intro _ _; rfl) :
    EJ X R Γ (.Subscript a b pos) ec (bindM ma fun x => bindM mb fun y => optM (f x y)) := e_two (pe_ix ho ha hb hs) hv
theorem e_one {r : V → Hp → VK → Prop} {ma : M α} {f : α → Option γ} (h : PE X e (tUn r (tE R Γ ea ma))) (hv : V1 r ea ec f) : EJ X R Γ e ec (bindM ma fun x => optM (f x)) := by
  refine PE.weak h fun σ H Q ⟨O, H0, ow, st, z, st', rel, ok, e, q⟩ => ?_
  obtain ⟨x, s1, e1, e3⟩ := bind_some e
  obtain ⟨e4, rfl⟩ := optM_inv e3
  refine ⟨O, H0, ow, st, x, s1, rel, ok, e1, fun vx H1 k1 o1 r1 => ?_⟩
  exact hv (avo O Γ ow) H1 x vx Q z (rel.grow k1 (okZ o1)).ad r1 e4 fun v H3 s3 r3 => q v H3 (k1.trans (Keep.of_same s3)) (o1.same s3) r3
theorem f_one {r : V → Hp → VK → Prop} {ma : M α} {f : α → Option (List γ)} (h : PE X e (tUn r (tE R Γ ea ma))) (hv : V1F r ea ec f) : EF X R Γ e ec (bindM ma fun x => optM (f x)) := by
  refine PE.weak h fun σ H Q ⟨O, H0, ow, st, z, st', rel, ok, e, q⟩ => ?_
  obtain ⟨x, s1, e1, e3⟩ := bind_some e
  obtain ⟨e4, rfl⟩ := optM_inv e3
  refine ⟨O, H0, ow, st, x, s1, rel, ok, e1, fun vx H1 k1 o1 r1 => ?_⟩
  exact hv (avo O Γ ow) H1 x vx Q z (rel.grow k1 (okZ o1)).ad r1 e4 fun p vs H3 n s3 e r3 => q p vs H3 (noneK k1 o1 n) (k1.trans (Keep.of_same s3)) (o1.same s3) e r3
theorem e_un {op : UnaryOp} {r : V → Hp → VK → Prop} {ma : M α} {f : α → Option γ} (ho : UnR X (unaryOp op) r) (hv : V1 r ea ec f) (ha : EJ X R Γ a ea ma) : EJ X R Γ (.UnaryOp op a pos) ec (bindM ma fun x => optM (f x)) := e_one (pe_un ho ha) hv

/-! ### argument lists -/
theorem a_nil : AJ X R Γ [] (fun _ : Unit => []) (pureM ()) := by
  refine PA.weak pa_nil fun σ H Q ⟨O, H0, ow, st, z, st', rel, ok, e, q⟩ => ?_
  obtain ⟨rfl, rfl⟩ := pure_some e
  exact q [] H (Keep.refl H) ok .nil
theorem RpS.keep {A : Av} {H H' : Hp} {v : V} {s : Slot} (r : RpS R A H v s) (k : Keep A H H') : RpS R A H' v s := by
  cases s with
  | fz d => exact Rp.keep (show Rp A H v d from r) k
  | src => exact r
  | _ => exact r.elim
theorem a_cons {es : List Expr} {en : β → List Slot} {ma : M α} {mb : M β} (ha : EJ X R Γ a ea ma) (hb : AJ X R Γ es en mb) (hs : starEach (a :: es) X.env = (false, eval a X.env) :: starEach es X.env := by rfl) :
    AJ X R Γ (a :: es) (fun p : α × β => .fz (ea p.1) :: en p.2) (bindM ma fun x => bindM mb fun y => pureM (x, y)) := by
  refine PA.weak (pa_cons ha hb hs) fun σ H Q ⟨O, H0, ow, st, z, st', rel, ok, e, q⟩ => ?_
  obtain ⟨x, s1, e1, e'⟩ := bind_some e
  obtain ⟨y, s2, e2, e3⟩ := bind_some e'
  obtain ⟨rfl, rfl⟩ := pure_some e3
  refine ⟨O, H0, ow, st, x, s1, rel, ok, e1, fun vx H1 k1 o1 r1 => ?_⟩
  refine ⟨O, H0, ow, s1, y, s2, rel.grow k1 (okZ o1), o1, e2, fun vs H2 k2 o2 r2 => ?_⟩
  exact q _ H2 (k1.trans k2) o2 (.cons (r1.keep ((rel.grow k1 (okZ o1)).keepA k2)) r2)
/-- the draws handed on: the name in slot i -/
theorem a_src (i : Nat) {x : Str} {es : List Expr} {en : β → List Slot} {mb : M β} (hb : AJ X R Γ es en mb) (hΓ : Γ[i]? = some .src := by rfl) (hN : X.N[i]? = some x := by rfl)
    (hv : Vis X.env.scope x := by first | exact Or.inl rfl | exact Or.inr (Or.inl rfl) | exact Or.inr (Or.inr rfl)) (hd : (x == ("__debug__" : Str)) = false := by decide)
    (hcd : (x == ("__classdict__" : Str)) = false := by decide) (hs : starEach (.Name x pos :: es) X.env = (false, eval (.Name x pos) X.env) :: starEach es X.env := by rfl) :
    AJ X R Γ (.Name x pos :: es) (fun p : β => .src :: en p) mb := by
  refine PA.weak (pa_cons (pe_var hN hv hd hcd) hb hs) fun σ H Q ⟨O, H0, ow, st, z, st', rel, ok, e, q⟩ => ?_
  obtain ⟨a, c, e1, e2⟩ := rel.hsrc i hΓ
  exact ⟨_, e2, O, H0, ow, st, z, st', rel, ok, e, fun vs H2 k2 o2 r2 => q _ H2 k2 o2 (.cons ⟨a, c, e1, rfl⟩ r2)⟩

/-! ### displays -/
/-- the data of an argument list -/
def Dat (l : List PyData) : List Slot := l.map .fz
theorem RpSs.dat {A : Av} {H : Hp} : ∀ {vs : List V} {l : List PyData}, RpSs R A H vs (l.map .fz) → RpAll A H vs l
  | _, [], h => by cases h; exact .nil
  | _, _ :: _, h => by
    cases h with
    | cons h1 h2 => exact .cons h1 (RpSs.dat h2)
theorem e_tup {es : List Expr} {k : Nat} {en : α → List Slot} {m : M α} (f : α → List PyData) (h : AJ X R Γ es en m) (hf : ∀ x, en x = (f x).map .fz := by intro _; rfl) (hl : ∀ x, (f x).length ≤ sizeLine := by intro _; exact (by decide : (_ : Nat) ≤ sizeLine)) :
    EJ X R Γ (.Tuple es k pos) (eP f) m := by
  refine PE.weak (pe_tup h) fun σ H Q ⟨O, H0, ow, st, z, st', rel, ok, e, q⟩ => ⟨O, H0, ow, st, z, st', rel, ok, e, fun vs H1 k1 o1 r1 => ?_⟩
  have r2 : RpAll _ _ _ _ := RpSs.dat (R := R) (by rw [hf] at r1; exact r1)
  refine ⟨by rw [r2.length]; exact hl z, fun p n => q _ _ (keepS k1 (same_new n)) (o1.same (same_new n)) ?_⟩
  exact .tup ((rel.grow k1 (okZ o1)).ad.fresh n) upd_same (r2.keep (Keep.of_same (same_new n)))
theorem f_lst {es : List Expr} {k : Nat} {en : α → List Slot} {m : M α} (f : α → List γ) (h : AJ X R Γ es en m) (hf : ∀ x, en x = ((f x).map ec).map .fz := by intro _; rfl) (hl : ∀ x, (f x).length ≤ sizeLine := by intro _; exact (by decide : (_ : Nat) ≤ sizeLine)) :
    EF X R Γ (.List es pos) ec (bindM m fun x => pureM (f x)) := by
  refine PE.weak (pe_lst h) fun σ H Q ⟨O, H0, ow, st, z, st', rel, ok, e, q⟩ => ?_
  obtain ⟨x, s1, e1, e2⟩ := bind_some e
  obtain ⟨rfl, rfl⟩ := pure_some e2
  refine ⟨O, H0, ow, st, x, s1, rel, ok, e1, fun vs H1 k1 o1 r1 => ?_⟩
  have r2 : RpAll _ _ _ _ := RpSs.dat (R := R) (by rw [hf] at r1; exact r1)
  refine ⟨by rw [r2.length, List.length_map]; exact hl x, fun p n => q p vs _ (noneK k1 o1 n) (keepS k1 (same_new n)) (o1.same (same_new n)) upd_same (r2.at n (Keep.of_same (same_new n)))⟩

/-! ### calls of built-ins -/
/-- a step on an argument list, by values -/
def VN (r : List V → Hp → VK → Prop) (en : α → List PyData) (ec : γ → PyData) (f : α → Option γ) : Prop :=
  ∀ (A : Av) (H : Hp) x vs Q z, Adom A H → RpAll A H vs (en x) → f x = some z → Post A H ec z Q → r vs H Q
def VNF (r : List V → Hp → VK → Prop) (en : α → List PyData) (ec : γ → PyData) (f : α → Option (List γ)) : Prop :=
  ∀ (A : Av) (H : Hp) x vs Q z, Adom A H → RpAll A H vs (en x) → f x = some z → PostF A H ec z Q → r vs H Q
theorem e_many {es : List Expr} {r : List V → Hp → VK → Prop} {en : α → List Slot} {m : M α} {f : α → Option γ} (dn : α → List PyData) (h : PE X e (tCB r (tA R Γ en m))) (hv : VN r dn ec f) (hf : ∀ x, en x = (dn x).map .fz := by intro _; rfl) :
    EJ X R Γ e ec (bindM m fun x => optM (f x)) := by
  refine PE.weak h fun σ H Q ⟨O, H0, ow, st, z, st', rel, ok, e, q⟩ => ?_
  obtain ⟨x, s1, e1, e3⟩ := bind_some e
  obtain ⟨e4, rfl⟩ := optM_inv e3
  refine ⟨O, H0, ow, st, x, s1, rel, ok, e1, fun vx H1 k1 o1 r1 => ?_⟩
  exact hv (avo O Γ ow) H1 x vx Q z (rel.grow k1 (okZ o1)).ad (RpSs.dat (by rw [hf] at r1; exact r1)) e4 fun v H3 s3 r3 => q v H3 (k1.trans (Keep.of_same s3)) (o1.same s3) r3
theorem f_many {es : List Expr} {r : List V → Hp → VK → Prop} {en : α → List Slot} {m : M α} {f : α → Option (List γ)} (dn : α → List PyData) (h : PE X e (tCB r (tA R Γ en m))) (hv : VNF r dn ec f) (hf : ∀ x, en x = (dn x).map .fz := by intro _; rfl) :
    EF X R Γ e ec (bindM m fun x => optM (f x)) := by
  refine PE.weak h fun σ H Q ⟨O, H0, ow, st, z, st', rel, ok, e, q⟩ => ?_
  obtain ⟨x, s1, e1, e3⟩ := bind_some e
  obtain ⟨e4, rfl⟩ := optM_inv e3
  refine ⟨O, H0, ow, st, x, s1, rel, ok, e1, fun vx H1 k1 o1 r1 => ?_⟩
  exact hv (avo O Γ ow) H1 x vx Q z (rel.grow k1 (okZ o1)).ad (RpSs.dat (by rw [hf] at r1; exact r1)) e4 fun p vs H3 n s3 e r3 => q p vs H3 (noneK k1 o1 n) (k1.trans (Keep.of_same s3)) (o1.same s3) e r3

/-! ### tests -/
theorem t_val {m : M Bool} (h : EJ X R Γ e eBool m) (he : ∀ whole, isTrue e X.env whole = (do let v ← whole; standAt e.pos; holding [v] (truthy v)) := by intro _; rfl) : TJ X R Γ e m := by
  refine PT.weak (pt_val h he) fun σ H Q ⟨O, H0, ow, st, z, st', rel, ok, e, q⟩ => ⟨O, H0, ow, st, z, st', rel, ok, e, fun v H1 k1 o1 r1 => ?_⟩
  cases r1
  exact ⟨z, rfl, q H1 k1 o1⟩
theorem t_not {m : M Bool} (h : TJ X R Γ a m) : TJ X R Γ (.UnaryOp .Not a pos) (bindM m fun b => pureM (!b)) := by
  refine PT.weak (pt_not h) fun σ H Q ⟨O, H0, ow, st, z, st', rel, ok, e, q⟩ => ?_
  obtain ⟨x, s1, e1, e2⟩ := bind_some e
  obtain ⟨rfl, rfl⟩ := pure_some e2
  exact ⟨O, H0, ow, st, x, s1, rel, ok, e1, q⟩
abbrev WJ (X : Cx) (R : Res) (Γ : List Slot) (e : Expr) (m : M Bool) : Prop := PW X e (tT R Γ m)
theorem w_t {m : M Bool} (h : WJ X R Γ e m) : TJ X R Γ e m := h.pt
theorem w_and1 {m : M Bool} (h : TJ X R Γ a m) : WJ X R Γ (.BoolOp .And [a] pos) m := pw_and1 h
theorem w_or1 {m : M Bool} (h : TJ X R Γ a m) : WJ X R Γ (.BoolOp .Or [a] pos) m := pw_or1 h
theorem w_and {rest : List Expr} {ma mb : M Bool} (ha : TJ X R Γ a ma) (hb : WJ X R Γ (.BoolOp .And (b :: rest) pos) mb) : WJ X R Γ (.BoolOp .And (a :: b :: rest) pos) (bindM ma fun x => if x then mb else pureM false) := by
  refine PW.weak (pw_and ha hb) fun σ H Q ⟨O, H0, ow, st, z, st', rel, ok, e, q⟩ => ?_
  obtain ⟨x, s1, e1, e2⟩ := bind_some e
  refine ⟨O, H0, ow, st, x, s1, rel, ok, e1, fun H1 k1 o1 => ?_⟩
  cases x with
  | true => exact ⟨O, H0, ow, s1, z, st', rel.grow k1 (okZ o1), o1, e2, fun H2 k2 o2 => q H2 (k1.trans k2) o2⟩
  | false =>
    obtain ⟨rfl, rfl⟩ := pure_some (show pureM false s1 = some (z, st') from e2)
    exact q H1 k1 o1
theorem w_or {rest : List Expr} {ma mb : M Bool} (ha : TJ X R Γ a ma) (hb : WJ X R Γ (.BoolOp .Or (b :: rest) pos) mb) : WJ X R Γ (.BoolOp .Or (a :: b :: rest) pos) (bindM ma fun x => if x then pureM true else mb) := by
  refine PW.weak (pw_or ha hb) fun σ H Q ⟨O, H0, ow, st, z, st', rel, ok, e, q⟩ => ?_
  obtain ⟨x, s1, e1, e2⟩ := bind_some e
  refine ⟨O, H0, ow, st, x, s1, rel, ok, e1, fun H1 k1 o1 => ?_⟩
  cases x with
  | false => exact ⟨O, H0, ow, s1, z, st', rel.grow k1 (okZ o1), o1, e2, fun H2 k2 o2 => q H2 (k1.trans k2) o2⟩
  | true =>
    obtain ⟨rfl, rfl⟩ := pure_some (show pureM true s1 = some (z, st') from e2)
    exact q H1 k1 o1
/-- .. as values -/
theorem e_one1 {op} {m : M Bool} (h : EJ X R Γ a eBool m) : EJ X R Γ (.BoolOp op [a] pos) eBool m := pe_one h
theorem e_and {rest : List Expr} {ma mb : M Bool} (ha : EJ X R Γ a eBool ma) (hb : EJ X R Γ (.BoolOp .And (b :: rest) pos) eBool mb) : EJ X R Γ (.BoolOp .And (a :: b :: rest) pos) eBool (bindM ma fun x => if x then mb else pureM false) := by
  refine PE.weak (pe_and ha hb) fun σ H Q ⟨O, H0, ow, st, z, st', rel, ok, e, q⟩ => ?_
  obtain ⟨x, s1, e1, e2⟩ := bind_some e
  refine ⟨O, H0, ow, st, x, s1, rel, ok, e1, fun v H1 k1 o1 r1 => ?_⟩
  cases r1
  refine ⟨x, rfl, ?_⟩
  cases x with
  | true => exact ⟨O, H0, ow, s1, z, st', rel.grow k1 (okZ o1), o1, e2, fun v H2 k2 o2 r => q v H2 (k1.trans k2) o2 r⟩
  | false =>
    obtain ⟨rfl, rfl⟩ := pure_some (show pureM false s1 = some (z, st') from e2)
    exact q _ H1 k1 o1 (.bl false)
theorem e_or {rest : List Expr} {ma mb : M Bool} (ha : EJ X R Γ a eBool ma) (hb : EJ X R Γ (.BoolOp .Or (b :: rest) pos) eBool mb) : EJ X R Γ (.BoolOp .Or (a :: b :: rest) pos) eBool (bindM ma fun x => if x then pureM true else mb) := by
  refine PE.weak (pe_or ha hb) fun σ H Q ⟨O, H0, ow, st, z, st', rel, ok, e, q⟩ => ?_
  obtain ⟨x, s1, e1, e2⟩ := bind_some e
  refine ⟨O, H0, ow, st, x, s1, rel, ok, e1, fun v H1 k1 o1 r1 => ?_⟩
  cases r1
  refine ⟨x, rfl, ?_⟩
  cases x with
  | false => exact ⟨O, H0, ow, s1, z, st', rel.grow k1 (okZ o1), o1, e2, fun v H2 k2 o2 r => q v H2 (k1.trans k2) o2 r⟩
  | true =>
    obtain ⟨rfl, rfl⟩ := pure_some (show pureM true s1 = some (z, st') from e2)
    exact q _ H1 k1 o1 (.bl true)
theorem e_not {m : M Bool} (h : EJ X R Γ a eBool m) : EJ X R Γ (.UnaryOp .Not a pos) eBool (bindM m fun b => pureM (!b)) := by
  refine PE.weak (pe_not h) fun σ H Q ⟨O, H0, ow, st, z, st', rel, ok, e, q⟩ => ?_
  obtain ⟨x, s1, e1, e2⟩ := bind_some e
  obtain ⟨rfl, rfl⟩ := pure_some e2
  exact ⟨O, H0, ow, st, x, s1, rel, ok, e1, fun v H1 k1 o1 r1 => by cases r1; exact ⟨x, rfl, q _ H1 k1 o1 (.bl _)⟩⟩
theorem e_if {mc : M Bool} {ma mb : M α} (hc : TJ X R Γ c mc) (ha : EJ X R Γ a ea ma) (hb : EJ X R Γ b ea mb) : EJ X R Γ (.IfExp c a b pos) ea (bindM mc fun x => if x then ma else mb) := by
  refine PE.weak (pe_ifExp hc ha hb) fun σ H Q ⟨O, H0, ow, st, z, st', rel, ok, e, q⟩ => ?_
  obtain ⟨x, s1, e1, e2⟩ := bind_some e
  refine ⟨O, H0, ow, st, x, s1, rel, ok, e1, fun H1 k1 o1 => ?_⟩
  cases x with
  | true => exact ⟨O, H0, ow, s1, z, st', rel.grow k1 (okZ o1), o1, e2, fun v H2 k2 o2 r => q v H2 (k1.trans k2) o2 r⟩
  | false => exact ⟨O, H0, ow, s1, z, st', rel.grow k1 (okZ o1), o1, e2, fun v H2 k2 o2 r => q v H2 (k1.trans k2) o2 r⟩
theorem f_if {mc : M Bool} {ma mb : M (List α)} (hc : TJ X R Γ c mc) (ha : EF X R Γ a ea ma) (hb : EF X R Γ b ea mb) : EF X R Γ (.IfExp c a b pos) ea (bindM mc fun x => if x then ma else mb) := by
  refine PE.weak (pe_ifExp hc ha hb) fun σ H Q ⟨O, H0, ow, st, z, st', rel, ok, e, q⟩ => ?_
  obtain ⟨x, s1, e1, e2⟩ := bind_some e
  refine ⟨O, H0, ow, st, x, s1, rel, ok, e1, fun H1 k1 o1 => ?_⟩
  cases x with
  | true => exact ⟨O, H0, ow, s1, z, st', rel.grow k1 (okZ o1), o1, e2, fun p vs H2 n k2 o2 e r => q p vs H2 (noneK k1 o1 n) (k1.trans k2) o2 e r⟩
  | false => exact ⟨O, H0, ow, s1, z, st', rel.grow k1 (okZ o1), o1, e2, fun p vs H2 n k2 o2 e r => q p vs H2 (noneK k1 o1 n) (k1.trans k2) o2 e r⟩
end
end Pz

namespace Pz
open PySem PySem.Spec PyProof.Rows L2

/-! ### what is forgotten, what is frozen -/
inductive Low : List Slot → List Slot → Prop
  | nil : Low [] []
  | un {s : Slot} {l r : List Slot} : Low l r → Low (s :: l) (.un :: r)
  | eq {s : Slot} {l r : List Slot} : Low l r → Low (s :: l) (s :: r)
  | fr {d : PyData} {l r : List Slot} : Low l r → Low (.ow d :: l) (.fz d :: r)
theorem Low.refl : ∀ Γ, Low Γ Γ
  | [] => .nil
  | _ :: r => .eq (Low.refl r)
theorem Low.at {Γ Γ' : List Slot} (h : Low Γ Γ') : ∀ i : Nat, (Γ[i]? = none ∧ Γ'[i]? = none) ∨ ∃ s, Γ[i]? = some s ∧ (Γ'[i]? = some .un ∨ Γ'[i]? = some s ∨ ∃ d, s = .ow d ∧ Γ'[i]? = some (.fz d)) := by
  induction h with
  | nil => intro i; exact .inl ⟨rfl, rfl⟩
  | un _ ih => intro i; cases i with
    | zero => exact .inr ⟨_, rfl, .inl rfl⟩
    | succ i => exact ih i
  | eq _ ih => intro i; cases i with
    | zero => exact .inr ⟨_, rfl, .inr (.inl rfl)⟩
    | succ i => exact ih i
  | fr _ ih => intro i; cases i with
    | zero => exact .inr ⟨_, rfl, .inr (.inr ⟨_, rfl, rfl⟩)⟩
    | succ i => exact ih i
theorem Low.length {Γ Γ' : List Slot} (h : Low Γ Γ') : Γ.length = Γ'.length := by induction h <;> simp_all
theorem Low.ow {Γ Γ' : List Slot} (h : Low Γ Γ') {i : Nat} {d : PyData} (e : Γ'[i]? = some (.ow d)) : Γ[i]? = some (.ow d) := by
  rcases h.at i with ⟨_, e2⟩ | ⟨s, e1, e2 | e2 | ⟨d', _, e2⟩⟩
  · rw [e] at e2; cases e2
  · rw [e] at e2; cases e2
  · rw [e] at e2; cases e2; exact e1
  · rw [e] at e2; cases e2
theorem Low.avo {O : Av} {ow : Nat → Addr} {Γ Γ' : List Slot} (h : Low Γ Γ') : ∀ a, avo O Γ' ow a → avo O Γ ow a := fun a z => by
  rcases z with z | ⟨i, d, e, q⟩
  · exact .inl z
  · exact .inr ⟨i, d, h.ow e, q⟩
theorem Rel.low {R : Res} {O : Av} {H0 H : Hp} {ow : Nat → Addr} {Γ Γ' : List Slot} {σ : L2.St} (r : Rel R O H0 ow Γ σ H) (h : Low Γ Γ') : Rel R O H0 ow Γ' σ H where
  len := h.length ▸ r.len
  hfz := fun i d e => by
    rcases h.at i with ⟨_, e2⟩ | ⟨s, e1, e2 | e2 | ⟨d', rfl, e2⟩⟩
    · rw [e] at e2; cases e2
    · rw [e] at e2; cases e2
    · rw [e] at e2; cases e2
      obtain ⟨v, a, b⟩ := r.hfz i d e1
      exact ⟨v, a, b.less h.avo⟩
    · rw [e] at e2; cases e2
      obtain ⟨a, b, c, f⟩ := r.how i d e1
      refine ⟨_, a, ?_⟩
      cases d with
      | list ds =>
        obtain ⟨vs, q1, q2⟩ := b
        refine .lst (fun z => ?_) q1 (q2.less h.avo)
        rcases z with z | ⟨j, d', e3, q⟩
        · exact c z
        · have := r.hinj j i _ _ (h.ow e3) e1 q
          subst this
          rw [e] at e3; cases e3
      | _ => exact b.elim
  how := fun i d e => let ⟨a, b, c, f⟩ := r.how i d (h.ow e); ⟨a, by
    cases d with
    | list ds => obtain ⟨vs, q1, q2⟩ := b; exact ⟨vs, q1, q2.less h.avo⟩
    | _ => exact b.elim, c, f⟩
  hsrc := fun i e => by
    rcases h.at i with ⟨_, e2⟩ | ⟨s, e1, e2 | e2 | ⟨d', rfl, e2⟩⟩
    · rw [e] at e2; cases e2
    · rw [e] at e2; cases e2
    · rw [e] at e2; cases e2; exact r.hsrc i e1
    · rw [e] at e2; cases e2
  hinj := fun i j d d' e1 e2 => r.hinj i j d d' (h.ow e1) (h.ow e2)
  same := r.same
  zsub := r.zsub
  odom := r.odom

/-! ### steps one behind the other -/
section
variable {R : Res} {O : Av} {H0 H H1 H2 : Hp} {ow ow1 ow2 : Nat → Addr} {Γ Γ1 Γ2 : List Slot} {σ : L2.St}
theorem Step.refl : Step O Γ ow H Γ ow H := ⟨Keep.refl H, fun i d e => .inl (.inr ⟨i, d, e, rfl⟩)⟩
theorem Step.trans (a : Step O Γ ow H Γ1 ow1 H1) (b : Step O Γ1 ow1 H1 Γ2 ow2 H2) : Step O Γ ow H Γ2 ow2 H2 where
  keep := fun x o n e => b.keep x o (fun z => by
    rcases z with z | ⟨i, d, e1, q⟩
    · exact n (.inl z)
    · subst q
      rcases a.sub i d e1 with z | z
      · exact n z
      · rw [e] at z; cases z) (a.keep x o n e)
  sub := fun i d e => by
    rcases b.sub i d e with z | z
    · rcases z with z | ⟨j, d', e1, q⟩
      · exact .inl (.inl z)
      · rw [← q]; exact a.sub j d' e1
    · by_cases n : avo O Γ ow (ow2 i)
      · exact .inl n
      · cases e1 : H (ow2 i) with
        | none => exact .inr rfl
        | some o => rw [a.keep _ o n e1] at z; cases z
/-- ahead of the step the heap grew -/
theorem Step.pre (k : Keep (avo O Γ ow) H H1) (b : Step O Γ ow H1 Γ2 ow2 H2) : Step O Γ ow H Γ2 ow2 H2 where
  keep := k.trans b.keep
  sub := fun i d e => by
    rcases b.sub i d e with z | z
    · exact .inl z
    · by_cases n : avo O Γ ow (ow2 i)
      · exact .inl n
      · cases e1 : H (ow2 i) with
        | none => exact .inr rfl
        | some o => rw [k _ o n e1] at z; cases z
theorem Step.low (h : Low Γ Γ1) (b : Step O Γ1 ow H Γ2 ow2 H2) : Step O Γ ow H Γ2 ow2 H2 where
  keep := b.keep.mono h.avo
  sub := fun i d e => by
    rcases b.sub i d e with z | z
    · exact .inl (h.avo _ z)
    · exact .inr z
theorem Step.lowR (h : Low Γ1 Γ2) (b : Step O Γ ow H Γ1 ow1 H1) : Step O Γ ow H Γ2 ow1 H1 where
  keep := b.keep
  sub := fun i d e => b.sub i d (h.ow e)
end

abbrev QJ {κ : Type} (X : Cx) (R : Res) (Γ : List Slot) (st : Stmt) (out : κ → OutD) (m : M κ) : Prop := PS X st (tS R Γ out m)
section
variable {α β γ κ ρ : Type} {ea : α → PyData} {ec : γ → PyData} {er : ρ → PyData} {X : Cx} {R : Res} {Γ Γ' : List Slot} {e c : Expr} {st : Stmt} {rest A B : List Stmt} {pos : Pos} {out : κ → OutD}

/-! ### blocks -/
theorem s_nil {k : κ} (hk : out k = .nx Γ') (h : Low Γ Γ') : SJ X R Γ [] out (pureM k) := by
  refine PSs.weak pss_nil fun D σ H ⟨O, H0, ow, st, z, st', rel, ok, e, q⟩ => ?_
  obtain ⟨rfl, rfl⟩ := pure_some e
  rw [hk] at q
  exact q ow σ H (rel.low h) ok (Step.refl.lowR h)
theorem s_low {m : M κ} (h : Low Γ Γ') (hs : SJ X R Γ' rest out m) : SJ X R Γ rest out m := by
  refine PSs.weak hs fun D σ H ⟨O, H0, ow, st, z, st', rel, ok, e, q⟩ => ⟨O, H0, ow, st, z, st', rel.low h, ok, e, ?_⟩
  revert q
  cases out z with
  | nx Γ2 => exact fun q ow' σ' H' a b c => q ow' σ' H' a b (c.low h)
  | rt d => exact fun q => q
theorem s_eq {m m' : M κ} (h : SJ X R Γ rest out m) (hm : m' = m) : SJ X R Γ rest out m' := hm ▸ h
theorem s_step {Γ1 : β → List Slot} {m1 : M β} {k : β → M κ} (h1 : QJ X R Γ st (fun b => .nx (Γ1 b)) m1) (h2 : ∀ b, SJ X R (Γ1 b) rest out (k b)) : SJ X R Γ (st :: rest) out (bindM m1 k) := by
  refine PSs.weak (pss_cons h1 (PSs.ex h2)) fun D σ H ⟨O, H0, ow, st, z, st', rel, ok, e, q⟩ => ?_
  obtain ⟨b, s1, e1, e2⟩ := bind_some e
  refine ⟨O, H0, ow, st, b, s1, rel, ok, e1, fun ow1 σ1 H1 r1 o1 p1 => ?_⟩
  refine ⟨b, O, H0, ow1, s1, z, st', r1, o1, e2, ?_⟩
  revert q
  cases out z with
  | nx Γ2 => exact fun q ow' σ' H' a b c => q ow' σ' H' a b (p1.trans c)
  | rt d => exact fun q => q
/-- a step that may return -/
def outO {ρ β : Type} (er : ρ → PyData) (Γ1 : β → List Slot) : Out ρ β → OutD
  | .nx b => .nx (Γ1 b)
  | .rt r => .rt (er r)
theorem s_stepO {Γ1 : β → List Slot} {m1 : M (Out ρ β)} {k : β → M κ} (f : ρ → κ) (h1 : QJ X R Γ st (outO er Γ1) m1) (h2 : ∀ b, SJ X R (Γ1 b) rest out (k b)) (hf : ∀ r, out (f r) = .rt (er r) := by intro _; rfl) :
    SJ X R Γ (st :: rest) out (bindM m1 fun o => match o with | .nx b => k b | .rt r => pureM (f r)) := by
  refine PSs.weak (pss_cons h1 (PSs.ex h2)) fun D σ H ⟨O, H0, ow, st, z, st', rel, ok, e, q⟩ => ?_
  obtain ⟨b, s1, e1, e2⟩ := bind_some e
  refine ⟨O, H0, ow, st, b, s1, rel, ok, e1, ?_⟩
  cases b with
  | nx b =>
    refine fun ow1 σ1 H1 r1 o1 p1 => ⟨b, O, H0, ow1, s1, z, st', r1, o1, e2, ?_⟩
    revert q
    cases out z with
    | nx Γ2 => exact fun q ow' σ' H' a b c => q ow' σ' H' a b (p1.trans c)
    | rt d => exact fun q => q
  | rt r =>
    obtain ⟨rfl, rfl⟩ := pure_some (show pureM (f r) s1 = some (z, st') from e2)
    rw [hf] at q
    exact q
theorem s_ret {enc : α → PyData} {m : M α} (f : α → κ) (he : EJ X R Γ e enc m) (hf : ∀ r, out (f r) = .rt (enc r) := by intro _; rfl) : SJ X R Γ (.Return (some e) pos :: rest) out (bindM m fun r => pureM (f r)) := by
  have h : PS X (.Return (some e) pos) _ := ps_ret he
  have h2 : PSs X (.Return (some e) pos :: rest) (tRet (tE R Γ enc m)) := by
    refine ⟨fun pins s σ H D I h' => ?_⟩
    refine wpAny_execs_cons (thn (h.run pins s σ H { D with nx := fun _ _ => False, bk := fun _ _ => False, ct := fun _ _ => False } I h') fun f s1 q => ?_)
    cases f with
    | next => exact q.elim fun _ ⟨_, _, z⟩ => z.elim
    | ret v => exact q
    | brk => exact q.elim fun _ ⟨_, _, z⟩ => z.elim
    | cont => exact q.elim fun _ ⟨_, _, z⟩ => z.elim
  refine PSs.weak h2 fun D σ H ⟨O, H0, ow, st, z, st', rel, ok, e, q⟩ => ?_
  obtain ⟨r, s1, e1, e2⟩ := bind_some e
  obtain ⟨rfl, rfl⟩ := pure_some e2
  rw [hf] at q
  exact ⟨O, H0, ow, st, r, s1, rel, ok, e1, fun v H' k o rp => q v H' (rel.same.trans k) o (rp.less fun a z => .inl z)⟩
/-- if c: .. that always returns -/
theorem s_ifret {outA : ρ → OutD} {mc : M Bool} {mA : M ρ} {mR : M κ} (f : ρ → κ) (hc : TJ X R Γ c mc) (hA : SJ X R Γ A outA mA) (hr : ∀ r, ∃ d, outA r = .rt d) (hf : ∀ r, out (f r) = outA r) (hR : SJ X R Γ rest out mR) :
    SJ X R Γ (.If c A [] pos :: rest) out (bindM mc fun k => if k then bindM mA (fun r => pureM (f r)) else mR) := by
  refine PSs.weak (pss_cons (ps_if hc hA pss_nil) hR) fun D σ H ⟨O, H0, ow, st, z, st', rel, ok, e, q⟩ => ?_
  obtain ⟨b, s1, e1, e2⟩ := bind_some e
  refine ⟨O, H0, ow, st, b, s1, rel, ok, e1, fun H1 k1 o1 => ?_⟩
  cases b with
  | true =>
    obtain ⟨r, s2, e3, e4⟩ := bind_some (show bindM mA (fun r => pureM (f r)) s1 = some (z, st') from e2)
    obtain ⟨rfl, rfl⟩ := pure_some e4
    refine ⟨O, H0, ow, s1, r, s2, rel.grow k1 (okZ o1), o1, e3, ?_⟩
    obtain ⟨d, hd⟩ := hr r
    rw [hf r] at q
    rw [hd] at q ⊢
    exact q
  | false =>
    refine ⟨O, H0, ow, s1, z, st', rel.grow k1 (okZ o1), o1, e2, ?_⟩
    revert q
    cases out z with
    | nx Γ2 => exact fun q ow' σ' H' a b c => q ow' σ' H' a b (c.pre (rel.keepA k1))
    | rt d => exact fun q => q
theorem s_ifret1 {mc : M Bool} {mA mR : M ρ} (hc : TJ X R Γ c mc) (hA : SJ X R Γ A (fun r => .rt (er r)) mA) (hR : SJ X R Γ rest (fun r => .rt (er r)) mR) :
    SJ X R Γ (.If c A [] pos :: rest) (fun r => .rt (er r)) (bindM mc fun k => if k then mA else mR) := by
  have := s_ifret (pos := pos) (out := fun r => .rt (er r)) (f := id) hc hA (fun r => ⟨_, rfl⟩) (fun _ => rfl) hR
  simpa using this
/-- an if that ends a block -/
theorem s_ifend {mc : M Bool} {mA mB : M κ} (hc : TJ X R Γ c mc) (hA : SJ X R Γ A out mA) (hB : SJ X R Γ B out mB) : SJ X R Γ [.If c A B pos] out (bindM mc fun k => if k then mA else mB) := by
  refine PSs.weak (pss_one (ps_if hc hA hB)) fun D σ H ⟨O, H0, ow, st, z, st', rel, ok, e, q⟩ => ?_
  obtain ⟨b, s1, e1, e2⟩ := bind_some e
  refine ⟨O, H0, ow, st, b, s1, rel, ok, e1, fun H1 k1 o1 => ?_⟩
  have q' : ∀ x, x = out z → (match x with
    | .nx Γ' => ∀ ow' σ' H', Rel R O H0 ow' Γ' σ' H' → okR R st' H' → Step O Γ ow H1 Γ' ow' H' → D.nx σ' H'
    | .rt d => ∀ v H', Keep (Zr R) H0 H' → okR R st' H' → Rp O H' v d → D.rt v H') := by
    rintro x rfl
    revert q
    cases out z with
    | nx Γ2 => exact fun q ow' σ' H' a b c => q ow' σ' H' a b (c.pre (rel.keepA k1))
    | rt d => exact fun q => q
  cases b with
  | true => exact ⟨O, H0, ow, s1, z, st', rel.grow k1 (okZ o1), o1, e2, q' _ rfl⟩
  | false => exact ⟨O, H0, ow, s1, z, st', rel.grow k1 (okZ o1), o1, e2, q' _ rfl⟩
theorem q_if {mc : M Bool} {mA mB : M κ} (hc : TJ X R Γ c mc) (hA : SJ X R Γ A out mA) (hB : SJ X R Γ B out mB) : QJ X R Γ (.If c A B pos) out (bindM mc fun k => if k then mA else mB) := by
  refine PS.weak (ps_if hc hA hB) fun D σ H ⟨O, H0, ow, st, z, st', rel, ok, e, q⟩ => ?_
  obtain ⟨b, s1, e1, e2⟩ := bind_some e
  refine ⟨O, H0, ow, st, b, s1, rel, ok, e1, fun H1 k1 o1 => ?_⟩
  have q' : ∀ x, x = out z → (match x with
    | .nx Γ' => ∀ ow' σ' H', Rel R O H0 ow' Γ' σ' H' → okR R st' H' → Step O Γ ow H1 Γ' ow' H' → D.nx σ' H'
    | .rt d => ∀ v H', Keep (Zr R) H0 H' → okR R st' H' → Rp O H' v d → D.rt v H') := by
    rintro x rfl
    revert q
    cases out z with
    | nx Γ2 => exact fun q ow' σ' H' a b c => q ow' σ' H' a b (c.pre (rel.keepA k1))
    | rt d => exact fun q => q
  cases b with
  | true => exact ⟨O, H0, ow, s1, z, st', rel.grow k1 (okZ o1), o1, e2, q' _ rfl⟩
  | false => exact ⟨O, H0, ow, s1, z, st', rel.grow k1 (okZ o1), o1, e2, q' _ rfl⟩

/-! ### slots set -/
theorem Rel.setFz {O : Av} {H0 H : Hp} {ow : Nat → Addr} {σ : L2.St} (r : Rel R O H0 ow Γ σ H) (i : Nat) {v : V} {d : PyData} (rp : Rp (Pz.avo O Γ ow) H v d) : Rel R O H0 ow (Γ.set i (.fz d)) (σ.set i (some v)) H := by
  have sub : ∀ (j : Nat) (d' : PyData), (Γ.set i (.fz d))[j]? = some (.ow d') → j ≠ i ∧ Γ[j]? = some (.ow d') := fun j d' e => by
    by_cases h : i = j
    · subst h
      rw [List.getElem?_set_self'] at e
      cases h : Γ[i]? <;> rw [h] at e <;> cases e
    · rw [List.getElem?_set_ne h] at e; exact ⟨fun z => h z.symm, e⟩
  have less : ∀ a, Pz.avo O (Γ.set i (.fz d)) ow a → Pz.avo O Γ ow a := fun a z => by
    rcases z with z | ⟨j, d', e, q⟩
    · exact .inl z
    · exact .inr ⟨j, d', (sub j d' e).2, q⟩
  refine ⟨by rw [List.length_set, List.length_set]; exact r.len, fun j d' e => ?_, fun j d' e => ?_, fun j e => ?_, fun j k d1 d2 e1 e2 => r.hinj j k d1 d2 (sub _ _ e1).2 (sub _ _ e2).2, r.same, r.zsub, r.odom⟩
  · by_cases h : i = j
    · subst h
      rw [List.getElem?_set_self'] at e
      cases h : Γ[i]? with
      | none => rw [h] at e; cases e
      | some s =>
        rw [h] at e
        have e' : d = d' := by cases e; rfl
        subst e'
        have hl : i < σ.length := by rw [← r.len]; exact (List.getElem?_eq_some_iff.mp h).1
        exact ⟨v, List.getElem?_set_self hl, rp.less less⟩
    · rw [List.getElem?_set_ne h] at e
      obtain ⟨w, a, b⟩ := r.hfz j d' e
      exact ⟨w, by rw [List.getElem?_set_ne h]; exact a, b.less less⟩
  · obtain ⟨n, e⟩ := sub j d' e
    obtain ⟨a, b, c, f⟩ := r.how j d' e
    refine ⟨by rw [List.getElem?_set_ne fun z => n z.symm]; exact a, ?_, c, f⟩
    cases d' with
    | list ds => obtain ⟨vs, q1, q2⟩ := b; exact ⟨vs, q1, q2.less less⟩
    | _ => exact b.elim
  · by_cases h : i = j
    · subst h
      rw [List.getElem?_set_self'] at e
      cases h : Γ[i]? <;> rw [h] at e <;> cases e
    · rw [List.getElem?_set_ne h] at e
      obtain ⟨a, c, e1, e2⟩ := r.hsrc j e
      exact ⟨a, c, e1, by rw [List.getElem?_set_ne h]; exact e2⟩
theorem Step.setFz {O : Av} {H H' : Hp} {ow : Nat → Addr} (i : Nat) (d : PyData) (k : Keep (Pz.avo O Γ ow) H H') : Step O Γ ow H (Γ.set i (.fz d)) ow H' := ⟨k, fun j d' e => by
  by_cases h : i = j
  · subst h
    rw [List.getElem?_set_self'] at e
    cases h : Γ[i]? <;> rw [h] at e <;> cases e
  · rw [List.getElem?_set_ne h] at e; exact .inl (.inr ⟨j, d', e, rfl⟩)⟩
theorem q_set (i : Nat) {x : Str} {pos' : Pos} {enc : α → PyData} {m : M α} (he : EJ X R Γ e enc m) (hN : X.N.Nodup) (hi : X.N[i]? = some x := by rfl) (hx : Loc X.env.scope x := by first | exact Or.inl rfl | exact Or.inr rfl)
    (hs : swapsWith e (some (.Name x pos')) pos.line X.env = pure false := by rfl) (hf : X.fn x = true ∨ X.env.scope.names.lookup x = some .local := by first | exact .inl rfl | exact .inr rfl) :
    QJ X R Γ (.Assign [.Name x pos'] e pos) (fun r => .nx (Γ.set i (.fz (enc r)))) m := by
  refine PS.weak (ps_set hN hi hx he hs hf) fun D σ H ⟨O, H0, ow, st, z, st', rel, ok, e, q⟩ => ⟨O, H0, ow, st, z, st', rel, ok, e, fun v H' k o rp => ?_⟩
  exact q ow _ H' ((rel.grow k (okZ o)).setFz i rp) o (Step.setFz i _ (rel.keepA k))

/-- a new list at a slot -/
theorem Rel.setOw {O : Av} {H0 H H' : Hp} {ow : Nat → Addr} {σ : L2.St} (r : Rel R O H0 ow Γ σ H) (i : Nat) {p : Addr} {ds : List PyData} {vs : List V} (n : H p = none) (k : Keep (Zr R) H H') (z : ∀ a, Zr R a → H' a ≠ none) (hp : H' p = some (.lst vs)) (rp : RpAll (avp (Pz.avo O Γ ow) p) H' vs ds) :
    Rel R O H0 (fun j => if j = i then p else ow j) (Γ.set i (.ow (.list ds))) (σ.set i (some (.ref p))) H' ∧ Step O Γ ow H (Γ.set i (.ow (.list ds))) (fun j => if j = i then p else ow j) H' := by
  have r' := r.grow k z
  have n1 : ¬ Pz.avo O Γ ow p := r.ad.fresh n
  have n0 : H0 p = none := by
    cases h : H0 p with
    | none => rfl
    | some u =>
      by_cases z1 : Zr R p
      · exact absurd (r.zavo z1) n1
      · rw [r.same p u z1 h] at n; cases n
  have sub : ∀ (j : Nat) (d' : PyData), (Γ.set i (.ow (.list ds)))[j]? = some (.ow d') → (j = i ∧ d' = .list ds ∧ i < Γ.length) ∨ (j ≠ i ∧ Γ[j]? = some (.ow d')) := fun j d' e => by
    by_cases h : i = j
    · subst h
      rw [List.getElem?_set_self'] at e
      cases h : Γ[i]? with
      | none => rw [h] at e; cases e
      | some s => rw [h] at e; refine .inl ⟨rfl, by cases e; rfl, (List.getElem?_eq_some_iff.mp h).1⟩
    · rw [List.getElem?_set_ne h] at e; exact .inr ⟨fun z => h z.symm, e⟩
  have less : ∀ a, Pz.avo O (Γ.set i (.ow (.list ds))) (fun j => if j = i then p else ow j) a → avp (Pz.avo O Γ ow) p a := fun a z => by
    rcases z with z | ⟨j, d', e, q⟩
    · exact .inl (.inl z)
    · rcases sub j d' e with ⟨rfl, _, _⟩ | ⟨n, e⟩
      · simp at q; exact .inr q.symm
      · simp [n] at q; exact .inl (.inr ⟨j, d', e, q⟩)
  have own' : ∀ (j : Nat) (d : PyData), Γ[j]? = some (.ow d) → ow j ≠ p := fun j d e z => n1 (.inr ⟨j, d, e, z⟩)
  have kA := r.keepA k
  refine ⟨⟨by rw [List.length_set, List.length_set]; exact r.len, fun j d' e => ?_, fun j d' e => ?_, fun j e => ?_, fun j k d1 d2 e1 e2 q => ?_, r'.same, r.zsub, r'.odom⟩, ⟨kA, fun j d' e => ?_⟩⟩
  · by_cases h : i = j
    · subst h
      rw [List.getElem?_set_self'] at e
      cases h : Γ[i]? <;> rw [h] at e <;> cases e
    · rw [List.getElem?_set_ne h] at e
      obtain ⟨w, a, b⟩ := r.hfz j d' e
      exact ⟨w, by rw [List.getElem?_set_ne h]; exact a, (b.at (p := p) n kA).less less⟩
  · rcases sub j d' e with ⟨rfl, rfl, hl⟩ | ⟨nj, e⟩
    · have hl' : j < σ.length := by rw [← r.len]; exact hl
      refine ⟨by simp [hl'], ⟨vs, by simp [hp], rp.less less⟩, by simp; exact fun z => n1 (.inl z), by simp [n0]⟩
    · obtain ⟨a, b, c, f⟩ := r.how j d' e
      simp only [nj, if_false]
      refine ⟨by rw [List.getElem?_set_ne fun z => nj z.symm]; exact a, ?_, c, f⟩
      cases d' with
      | list ds =>
        obtain ⟨vs, q1, q2⟩ := b
        exact ⟨vs, k _ _ (fun z => c (r.zsub _ z)) q1, (q2.at (p := p) n kA).less less⟩
      | _ => exact b.elim
  · by_cases h : i = j
    · subst h
      rw [List.getElem?_set_self'] at e
      cases h : Γ[i]? <;> rw [h] at e <;> cases e
    · rw [List.getElem?_set_ne h] at e
      obtain ⟨a, c, e1, e2⟩ := r.hsrc j e
      exact ⟨a, c, e1, by rw [List.getElem?_set_ne h]; exact e2⟩
  · rcases sub j d1 e1 with ⟨rfl, _, _⟩ | ⟨nj, f1⟩ <;> rcases sub k d2 e2 with ⟨rfl, _, _⟩ | ⟨nk, f2⟩
    · rfl
    · simp [nk] at q; exact absurd q.symm (own' k _ f2)
    · simp [nj] at q; exact absurd q (own' j _ f1)
    · simp [nj, nk] at q; exact r.hinj j k _ _ f1 f2 q
  · rcases sub j d' e with ⟨rfl, _, _⟩ | ⟨nj, e⟩
    · simp [n]
    · simp only [nj, if_false]; exact .inl (.inr ⟨j, d', e, rfl⟩)
theorem q_setF (i : Nat) {x : Str} {pos' : Pos} {m : M (List γ)} (he : EF X R Γ e ec m) (hN : X.N.Nodup) (hi : X.N[i]? = some x := by rfl) (hx : Loc X.env.scope x := by first | exact Or.inl rfl | exact Or.inr rfl)
    (hs : swapsWith e (some (.Name x pos')) pos.line X.env = pure false := by rfl) (hf : X.fn x = true ∨ X.env.scope.names.lookup x = some .local := by first | exact .inl rfl | exact .inr rfl) :
    QJ X R Γ (.Assign [.Name x pos'] e pos) (fun r => .nx (Γ.set i (.ow (eL ec r)))) m := by
  refine PS.weak (ps_set hN hi hx he hs hf) fun D σ H ⟨O, H0, ow, st, z, st', rel, ok, e, q⟩ => ⟨O, H0, ow, st, z, st', rel, ok, e, fun p vs H' n k o ep rp => ?_⟩
  obtain ⟨r1, s1⟩ := rel.setOw i n k (okZ o) ep rp
  exact q _ _ H' r1 o s1
end
end Pz

namespace Pz
open PySem PySem.Spec PyProof.Rows L2

section
variable {α β γ κ ρ ι : Type} {ea : α → PyData} {ec : γ → PyData} {er : ρ → PyData} {ei : ι → PyData} {X : Cx} {R : Res} {Γ Γ' : List Slot} {e c : Expr} {st : Stmt} {rest A B : List Stmt} {pos : Pos} {out : κ → OutD}
/-! ### own lists changed -/
theorem set_ow {Γ : List Slot} {i : Nat} {d d0 : PyData} (h : Γ[i]? = some (.ow d0)) {j : Nat} {d' : PyData} (e : (Γ.set i (.ow d))[j]? = some (.ow d')) : (j = i ∧ d' = d) ∨ (j ≠ i ∧ Γ[j]? = some (.ow d')) := by
  by_cases hj : i = j
  · subst hj
    rw [List.getElem?_set_self', h] at e
    cases e
    exact .inl ⟨rfl, rfl⟩
  · rw [List.getElem?_set_ne hj] at e; exact .inr ⟨fun z => hj z.symm, e⟩
theorem Rel.updOw {O : Av} {H0 H : Hp} {ow : Nat → Addr} {σ : L2.St} (r : Rel R O H0 ow Γ σ H) {i : Nat} {d0 : PyData} {ds : List PyData} {vs : List V} (h : Γ[i]? = some (.ow d0)) (rp : RpAll (Pz.avo O Γ ow) H vs ds) :
    Rel R O H0 ow (Γ.set i (.ow (.list ds))) σ (upd H (ow i) (.lst vs)) ∧ Step O Γ ow H (Γ.set i (.ow (.list ds))) ow (upd H (ow i) (.lst vs)) := by
  have av : ∀ a, Pz.avo O (Γ.set i (.ow (.list ds))) ow a → Pz.avo O Γ ow a := fun a z => by
    rcases z with z | ⟨j, d', e, q⟩
    · exact .inl z
    · rcases set_ow h e with ⟨rfl, _⟩ | ⟨_, e⟩
      · exact .inr ⟨j, d0, h, q⟩
      · exact .inr ⟨j, d', e, q⟩
  have k : Keep (Pz.avo O Γ ow) H (upd H (ow i) (.lst vs)) := fun a o n e => by
    rw [upd_ne (fun z => n (.inr ⟨i, d0, h, z.symm⟩))]; exact e
  obtain ⟨hs, _, nO, n0⟩ := r.how i d0 h
  refine ⟨⟨by rw [List.length_set]; exact r.len, fun j d' e => ?_, fun j d' e => ?_, fun j e => ?_, fun j k d1 d2 e1 e2 q => ?_, fun a o z e => ?_, r.zsub, fun a z => ?_⟩, ⟨k, fun j d' e => .inl ?_⟩⟩
  · by_cases hj : i = j
    · subst hj
      rw [List.getElem?_set_self', h] at e; cases e
    · rw [List.getElem?_set_ne hj] at e
      obtain ⟨w, a, b⟩ := r.hfz j d' e
      exact ⟨w, a, (b.keep k).less av⟩
  · rcases set_ow h e with ⟨rfl, rfl⟩ | ⟨nj, e⟩
    · exact ⟨hs, ⟨vs, upd_same, (rp.keep k).less av⟩, nO, n0⟩
    · obtain ⟨a, b, c, f⟩ := r.how j d' e
      refine ⟨a, ?_, c, f⟩
      cases d' with
      | list ds2 =>
        obtain ⟨vs2, q1, q2⟩ := b
        exact ⟨vs2, by rw [upd_ne (fun z => nj (r.hinj j i _ _ e h z))]; exact q1, (q2.keep k).less av⟩
      | _ => exact b.elim
  · by_cases hj : i = j
    · subst hj
      rw [List.getElem?_set_self', h] at e; cases e
    · rw [List.getElem?_set_ne hj] at e
      exact r.hsrc j e
  · rcases set_ow h e1 with ⟨rfl, _⟩ | ⟨_, f1⟩ <;> rcases set_ow h e2 with ⟨rfl, _⟩ | ⟨_, f2⟩
    · rfl
    · exact r.hinj _ _ _ _ h f2 q
    · exact r.hinj _ _ _ _ f1 h q
    · exact r.hinj _ _ _ _ f1 f2 q
  · have e1 := r.same a o z e
    rw [upd_ne (fun q => by rw [q, n0] at e; cases e)]; exact e1
  · by_cases q : a = ow i
    · rw [q]; simp [upd_same]
    · rw [upd_ne q]; exact r.odom a z
  · rcases set_ow h e with ⟨rfl, _⟩ | ⟨_, e⟩
    · exact .inr ⟨j, d0, h, rfl⟩
    · exact .inr ⟨j, d', e, rfl⟩
/-- the draws don't stand in what is owned -/
theorem Rel.okUpd {O : Av} {H0 H : Hp} {ow : Nat → Addr} {σ : L2.St} {u : Src} (r : Rel R O H0 ow Γ σ H) (ok : okR R u H) {i : Nat} {d0 : PyData} {o : HO} (h : Γ[i]? = some (.ow d0)) : okR R u (upd H (ow i) o) :=
  ok.keep fun a o' z e => by
    rw [upd_ne (fun q => (r.how i d0 h).2.2.1 (by rw [← q]; exact r.zsub a z))]; exact e
def appM {α : Type} (xs : List α) (x : α) : M (List α) := if xs.length < sizeLine then pureM (xs ++ [x]) else failM
def extM {α : Type} (xs ys : List α) : M (List α) := if xs.length + ys.length ≤ sizeLine then pureM (xs ++ ys) else failM
theorem if_some {α : Type} {c : Prop} [Decidable c] {a b : α} {s t : Src} (h : (if c then pureM a else failM) s = some (b, t)) : c ∧ a = b ∧ s = t := by
  by_cases hc : c
  · rw [if_pos hc] at h; exact ⟨hc, pure_some h⟩
  · rw [if_neg hc] at h; cases h
theorem tyL {K : PySem.W.Frag} {H : Hp} {p : Addr} {vs : List V} (h : H p = some (.lst vs)) : tyV K "list" (.ref p) H := Or.inl ⟨rfl, _, Or.inl (Or.inl h)⟩
theorem q_app (i : Nat) {x : Str} {p1 p2 p3 : Pos} (xs : List γ) {m : M γ} (he : EJ X R Γ e ec m) (hΓ : Γ[i]? = some (.ow (eL ec xs)) := by rfl) (hN : X.N[i]? = some x := by rfl)
    (hv : Vis X.env.scope x := by first | exact Or.inl rfl | exact Or.inr (Or.inl rfl) | exact Or.inr (Or.inr rfl))
    (hd : (x == ("__debug__" : Str)) = false := by decide) (hcd : (x == ("__classdict__" : Str)) = false := by decide)
    (hbase : attributeBase (.Name x p1) "append" X.env (eval (.Name x p1) X.env) = eval (.Name x p1) X.env := by rfl)
    (hfew : ((backTo p3 (starEach [e] X.env)).all (fun x => !x.1) && (backToKw p3 (keywordEach [] X.env)).all (fun x => x.1.isSome)
      && decide (([e] : List Expr).length + ([] : List Keyword).length + (if ([] : List Keyword).isEmpty then 0 else 1) < 30)) = true := by rfl)
    (hline : (p2.endLine == p3.line) = true := by rfl) (hs : starEach [e] X.env = (false, eval e X.env) :: starEach [] X.env := by rfl)
    (hsw : swapsWith (.Call (.Attribute (.Name x p1) "append" p2) [e] [] p3) none pos.line X.env = pure false := by rfl) :
    QJ X R Γ (.Expr (.Call (.Attribute (.Name x p1) "append" p2) [e] [] p3) pos) (fun b => .nx (Γ.set i (.ow (eL ec b)))) (bindM m fun y => appM xs y) := by
  refine PS.weak (ps_expr (pe_bm PySem.F.plainAttrs_list PySem.F.slot_list_append PySem.F.type_list_append mt_append (pe_var hN hv hd hcd) (pa_cons he pa_nil hs) hbase hfew hline hs rfl) hsw) fun D σ H ⟨O, H0, ow, st, z, st', rel, ok, e, q⟩ => ?_
  obtain ⟨y, s1, e1, e2⟩ := bind_some e
  obtain ⟨hl, rfl, rfl⟩ := if_some e2
  obtain ⟨hσ, ⟨vs, hp, rv⟩, nO, n0⟩ := rel.how i _ hΓ
  refine ⟨_, hσ, tyL hp, O, H0, ow, st, y, s1, rel, ok, e1, fun v H1 k o rp => ?_⟩
  have rel1 := rel.grow k (okZ o)
  have hp1 : H1 (ow i) = some (.lst vs) := k _ _ (fun z => nO (rel.zsub _ z)) hp
  refine ⟨ow i, vs, v, rfl, rfl, hp1, by rw [rv.length, List.length_map]; exact hl, ?_⟩
  have rv1 : RpAll (avo O Γ ow) H1 (vs ++ [v]) ((xs ++ [y]).map ec) := by
    rw [List.map_append]; exact (rv.keep (rel.keepA k)).append (.cons rp .nil)
  obtain ⟨r2, s2⟩ := rel1.updOw hΓ rv1
  exact q ow σ _ r2 (rel1.okUpd o hΓ) (s2.pre (rel.keepA k))
theorem q_ext (i : Nat) {x : Str} {p1 p2 p3 : Pos} (xs : List γ) {m : M (List γ)} (he : EJ X R Γ e (eL ec) m) (hΓ : Γ[i]? = some (.ow (eL ec xs)) := by rfl) (hN : X.N[i]? = some x := by rfl)
    (hv : Vis X.env.scope x := by first | exact Or.inl rfl | exact Or.inr (Or.inl rfl) | exact Or.inr (Or.inr rfl))
    (hd : (x == ("__debug__" : Str)) = false := by decide) (hcd : (x == ("__classdict__" : Str)) = false := by decide)
    (hbase : attributeBase (.Name x p1) "extend" X.env (eval (.Name x p1) X.env) = eval (.Name x p1) X.env := by rfl)
    (hfew : ((backTo p3 (starEach [e] X.env)).all (fun x => !x.1) && (backToKw p3 (keywordEach [] X.env)).all (fun x => x.1.isSome)
      && decide (([e] : List Expr).length + ([] : List Keyword).length + (if ([] : List Keyword).isEmpty then 0 else 1) < 30)) = true := by rfl)
    (hline : (p2.endLine == p3.line) = true := by rfl) (hs : starEach [e] X.env = (false, eval e X.env) :: starEach [] X.env := by rfl)
    (hsw : swapsWith (.Call (.Attribute (.Name x p1) "extend" p2) [e] [] p3) none pos.line X.env = pure false := by rfl) :
    QJ X R Γ (.Expr (.Call (.Attribute (.Name x p1) "extend" p2) [e] [] p3) pos) (fun b => .nx (Γ.set i (.ow (eL ec b)))) (bindM m fun y => extM xs y) := by
  refine PS.weak (ps_expr (pe_bm PySem.F.plainAttrs_list PySem.F.slot_list_extend PySem.F.type_list_extend mt_extend (pe_var hN hv hd hcd) (pa_cons he pa_nil hs) hbase hfew hline hs rfl) hsw) fun D σ H ⟨O, H0, ow, st, z, st', rel, ok, e, q⟩ => ?_
  obtain ⟨y, s1, e1, e2⟩ := bind_some e
  obtain ⟨hl, rfl, rfl⟩ := if_some e2
  obtain ⟨hσ, ⟨vs, hp, rv⟩, nO, n0⟩ := rel.how i _ hΓ
  refine ⟨_, hσ, tyL hp, O, H0, ow, st, y, s1, rel, ok, e1, fun v H1 k o rp => ?_⟩
  have rel1 := rel.grow k (okZ o)
  have hp1 : H1 (ow i) = some (.lst vs) := k _ _ (fun z => nO (rel.zsub _ z)) hp
  cases rp with
  | @lst b zs _ nb hb rb =>
    refine ⟨ow i, b, vs, zs, rfl, rfl, hp1, hb, by rw [rv.length, rb.length, List.length_map, List.length_map]; exact hl, ?_⟩
    have rv1 : RpAll (avo O Γ ow) H1 (vs ++ zs) ((xs ++ y).map ec) := by
      rw [List.map_append]; exact (rv.keep (rel.keepA k)).append rb
    obtain ⟨r2, s2⟩ := rel1.updOw hΓ rv1
    exact q ow σ _ r2 (rel1.okUpd o hΓ) (s2.pre (rel.keepA k))

/-! ### an own list is read: nothing of it goes on -/
mutual
def noL : PyData → Bool
  | .list _ => false
  | .dict _ => false
  | .tuple ds => noLs ds
  | _ => true
def noLs : List PyData → Bool
  | [] => true
  | d :: ds => noL d && noLs ds
end
mutual
theorem noL_rp {A A' : Av} {H : Hp} (ht : ∀ a xs, ¬ A a → H a = some (.tup xs) → ¬ A' a) : ∀ (d : PyData) (v : V), noL d = true → Rp A H v d → Rp A' H v d
  | .none, _, _, r => by cases r; exact .non
  | .bool b, _, _, r => by cases r; exact .bl b
  | .int i, _, _, r => by cases r; exact .int i
  | .str x, _, _, r => by cases r; exact .str x
  | .list _, _, h, _ => by simp [noL] at h
  | .tuple ds, _, h, r => by
    cases r with
    | tup h1 h2 h3 => exact .tup (ht _ _ h1 h2) h2 (noLs_rp ht ds _ (by simpa [noL] using h) h3)
  | .dict _, _, h, _ => by simp [noL] at h
theorem noLs_rp {A A' : Av} {H : Hp} (ht : ∀ a xs, ¬ A a → H a = some (.tup xs) → ¬ A' a) : ∀ (ds : List PyData) (vs : List V), noLs ds = true → RpAll A H vs ds → RpAll A' H vs ds
  | [], _, _, r => by cases r; exact .nil
  | d :: ds, _, h, r => by
    simp only [noLs, Bool.and_eq_true] at h
    cases r with
    | cons h1 h2 => exact .cons (noL_rp ht d _ h.1 h1) (noLs_rp ht ds _ h.2 h2)
end
def NL {α : Type} (e : α → PyData) : Prop := ∀ x, noL (e x) = true
theorem NL.int : NL eInt := fun _ => rfl
theorem NL.bool : NL eBool := fun _ => rfl
theorem NL.str : NL eStr := fun _ => rfl
theorem NL.non : NL eNon := fun _ => rfl
theorem NL.all {e : α → PyData} (h : NL e) : ∀ xs : List α, noLs (xs.map e) = true
  | [] => rfl
  | x :: xs => by simp [noLs, h x, NL.all h xs]
theorem NL.tup {e : α → PyData} (h : NL e) : NL (eT e) := fun xs => by simp [eT, noL, NL.all h xs]
theorem NL.opt {e : α → PyData} (h : NL e) : NL (eO e) := fun x => by cases x with
  | none => rfl
  | some x => exact h x
def NLs {α : Type} (f : α → List PyData) : Prop := ∀ x, noLs (f x) = true
theorem NLs.nil : NLs eU := fun _ => rfl
theorem NLs.cons {e : α → PyData} {f : β → List PyData} (h : NL e) (k : NLs f) : NLs (eC e f) := fun p => by simp [eC, noLs, h p.1, k p.2]
theorem NL.pr {f : α → List PyData} (h : NLs f) : NL (eP f) := fun p => by simp [eP, noL, h p]
theorem set_fz {Γ : List Slot} {i : Nat} {d d0 : PyData} (h : Γ[i]? = some (.ow d0)) {a : Addr} {O : Av} {ow : Nat → Addr} (z : avo O Γ ow a) : avo O (Γ.set i (.fz d)) ow a ∨ a = ow i := by
  rcases z with z | ⟨j, d', e, q⟩
  · exact .inl (.inl z)
  · by_cases hj : i = j
    · subst hj; exact .inr q.symm
    · exact .inl (.inr ⟨j, d', by rw [List.getElem?_set_ne hj]; exact e, q⟩)
theorem low_fr {Γ : List Slot} : ∀ {i : Nat} {d : PyData}, Γ[i]? = some (.ow d) → Low Γ (Γ.set i (.fz d)) := by
  induction Γ with
  | nil => intro i d h; simp at h
  | cons s r ih =>
    intro i d h
    cases i with
    | zero => simp at h; subst h; exact .fr (Low.refl r)
    | succ i => exact .eq (ih (by simpa using h))
/-- slot i, an own list, read in e; what comes out has no list in it -/
theorem e_borrow (i : Nat) {d : PyData} {enc : α → PyData} {m : M α} (h : EJ X R (Γ.set i (.fz d)) e enc m) (hn : NL enc) (hΓ : Γ[i]? = some (.ow d) := by rfl) : EJ X R Γ e enc m := by
  refine PE.weak h fun σ H Q ⟨O, H0, ow, st, z, st', rel, ok, e, q⟩ => ⟨O, H0, ow, st, z, st', rel.low (low_fr hΓ), ok, e, fun v H' k o rp => q v H' k o ?_⟩
  obtain ⟨_, hown, nO, _⟩ := rel.how i _ hΓ
  refine noL_rp (fun a xs na ha za => ?_) _ _ (hn z) rp
  rcases set_fz (d := d) hΓ za with z1 | z1
  · exact na z1
  · cases d with
    | list ds =>
      obtain ⟨vs, hp, _⟩ := hown
      have := k _ _ (fun z => nO (rel.zsub _ z)) hp
      rw [← z1, ha] at this; cases this
    | _ => exact hown.elim
theorem f_borrow (i : Nat) {d : PyData} {m : M (List α)} (h : EF X R (Γ.set i (.fz d)) e ea m) (hn : NL ea) (hΓ : Γ[i]? = some (.ow d) := by rfl) : EF X R Γ e ea m := by
  refine PE.weak h fun σ H Q ⟨O, H0, ow, st, z, st', rel, ok, e, q⟩ => ⟨O, H0, ow, st, z, st', rel.low (low_fr hΓ), ok, e, fun p vs H' n k o ep rp => q p vs H' n k o ep ?_⟩
  obtain ⟨_, hown, nO, _⟩ := rel.how i _ hΓ
  refine noLs_rp (fun a xs na ha za => ?_) _ _ (NL.all hn z) rp
  rcases za with za | za
  · rcases set_fz (d := d) hΓ za with z1 | z1
    · exact na (.inl z1)
    · cases d with
      | list ds =>
        obtain ⟨vs, hp, _⟩ := hown
        have := k _ _ (fun z => nO (rel.zsub _ z)) hp
        rw [← z1, ha] at this; cases this
      | _ => exact hown.elim
  · exact na (.inr za)
theorem t_borrow (i : Nat) {d : PyData} {m : M Bool} (h : TJ X R (Γ.set i (.fz d)) e m) (hΓ : Γ[i]? = some (.ow d) := by rfl) : TJ X R Γ e m :=
  PT.weak h fun σ H Q ⟨O, H0, ow, st, z, st', rel, ok, e, q⟩ => ⟨O, H0, ow, st, z, st', rel.low (low_fr hΓ), ok, e, q⟩

/-! ### what is walked -/
def ItOk (J : It) (A : Av) (H1 : Hp) (ds : List PyData) : Prop := ∀ H i, Keep A H1 H → (ds.length ≤ i → J.stop i H) ∧ ∀ d, ds[i]? = some d → J.go i H ∧ ∀ v H', J.yld i H v H' → Same H H' ∧
  ∀ A', (∀ a o, ¬ A a → H1 a = some o → ¬ A' a) → Adom A' H → Rp A' H' v d
def tI (R : Res) (Γ : List Slot) (enc : ι → PyData) (m : M (List ι)) : TI := fun σ H Rr => ∃ O H0 ow st r st', Rel R O H0 ow Γ σ H ∧ okR R st H ∧ m st = some (r, st') ∧
  ∀ J H1, Keep (Zr R) H H1 → okR R st' H1 → r.length ≤ sizeLine → ItOk J (avo O Γ ow) H1 (r.map enc) → Rr J H1
abbrev IJ (X : Cx) (R : Res) (Γ : List Slot) (iter tg : Expr) (enc : ι → PyData) (m : M (List ι)) : Prop := PI X tg iter (tI R Γ enc m)
theorem PI.weak {tg iter : Expr} {t t' : TI} (h : PI X tg iter t) (w : ∀ σ H Rr, t' σ H Rr → t σ H Rr) : PI X tg iter t' := ⟨fun pins s σ H Rr I q => h.run pins s σ H Rr I (w σ H Rr q)⟩
def Fits (H : Hp) : Prop := ∀ a xs, (H a = some (.lst xs) ∨ H a = some (.tup xs)) → xs.length ≤ sizeLine
theorem Inv.fits {pins : List (Addr × Obj)} {σ : L2.St} {H : Hp} {s : Shared} (I : Inv X pins σ H s) : Fits H := fun a xs h => by
  rcases h with h | h
  · obtain ⟨z, _⟩ := I.hok a _ h; exact z
  · obtain ⟨z, _⟩ := I.hok a _ h; exact z
theorem PI.fits {tg iter : Expr} {t : TI} (h : PI X tg iter t) : PI X tg iter (fun σ H Rr => t σ H fun J H1 => Fits H1 → Rr J H1) := ⟨fun pins s σ H Rr I q =>
  thn (h.run pins s σ H _ I q) fun v s1 w => thn w fun itv s2 ⟨it, fp, tn, J, H', a, b, c, d, f, g⟩ => ⟨it, fp, tn, J, H', a, b, c, d, f, g (Inv.fits b)⟩⟩
theorem PE.fits {t : TE} (h : PE X e t) : PE X e (fun σ H Q => t σ H fun v H1 => Fits H1 → Q v H1) := ⟨fun pins s σ H Q I q =>
  thn (h.run pins s σ H _ I q) fun v s1 ⟨x, H', a, b, c⟩ => ⟨x, H', a, b, c (Inv.fits a)⟩⟩
/-- what the items of a list or a tuple say -/
theorem items_ok {A A' : Av} {H1 H : Hp} {vs : List V} {ds : List PyData} (r : RpAll A H1 vs ds) (k : Keep A H1 H) {i : Nat} {v : V} {d : PyData} (hv : vs[i]? = some v) (hd : ds[i]? = some d) (h : ∀ a o, ¬ A a → H1 a = some o → ¬ A' a) : Rp A' H v d := by
  obtain ⟨w, hw, rw'⟩ := r.get hd
  rw [hv] at hw; cases hw
  exact Rp.move (fun a o na e => ⟨h a o na e, k a o na e⟩) d v rw'
theorem itok_list {K : PySem.W.Frag} {A : Av} {H1 : Hp} {a : Addr} {vs : List V} {ds : List PyData} (na : ¬ A a) (ha : H1 a = some (.lst vs)) (r : RpAll A H1 vs ds) : ItOk (Itl K a) A H1 ds := fun H i k => by
  have hH := k _ _ na ha
  refine ⟨fun hl => ⟨vs, SqL.of hH, by rw [r.length]; exact hl⟩, fun d hd => ?_⟩
  obtain ⟨v0, hv0, _⟩ := r.get hd
  refine ⟨⟨vs, v0, SqL.of hH, hv0⟩, fun v H' y => ?_⟩
  obtain ⟨rfl, hy⟩ := y
  refine ⟨Same.refl _, fun A' h _ => ?_⟩
  have : v0 = v := Option.some.inj (hv0.symm.trans (hy vs (SqL.of hH)))
  subst this
  exact items_ok r k hv0 hd h
theorem itok_tup {K : PySem.W.Frag} {A : Av} {H1 : Hp} {a : Addr} {vs : List V} {ds : List PyData} (na : ¬ A a) (ha : H1 a = some (.tup vs)) (r : RpAll A H1 vs ds) : ItOk (Itt K a) A H1 ds := fun H i k => by
  have hH := k _ _ na ha
  refine ⟨fun hl => ⟨vs, SqT.of hH, by rw [r.length]; exact hl⟩, fun d hd => ?_⟩
  obtain ⟨v0, hv0, _⟩ := r.get hd
  refine ⟨⟨vs, v0, SqT.of hH, hv0⟩, fun v H' y => ?_⟩
  obtain ⟨rfl, hy⟩ := y
  refine ⟨Same.refl _, fun A' h _ => ?_⟩
  have : v0 = v := Option.some.inj (hv0.symm.trans (hy vs (SqT.of hH)))
  subst this
  exact items_ok r k hv0 hd h
theorem i_list {tg : Expr} {enc : ι → PyData} {m : M (List ι)} (h : EJ X R Γ e (eL enc) m) : IJ X R Γ e tg enc m := by
  refine PI.weak (PI.fits (pi_list h)) fun σ H Rr ⟨O, H0, ow, st, z, st', rel, ok, e, q⟩ => ⟨O, H0, ow, st, z, st', rel, ok, e, fun v H1 k o rp => ?_⟩
  cases rp with
  | @lst a vs _ na ha ra =>
    exact ⟨a, rfl, ⟨vs, SqL.of ha⟩, fun fit => q _ H1 k o (by have := fit a vs (.inl ha); rw [ra.length, List.length_map] at this; exact this) (itok_list na ha ra)⟩
end
end Pz

namespace Pz
open PySem PySem.Spec PyProof.Rows L2

section
variable {α β γ κ ρ ι : Type} {ea : α → PyData} {ec : γ → PyData} {er : ρ → PyData} {ei : ι → PyData} {X : Cx} {R : Res} {Γ Γ' : List Slot} {e c : Expr} {st : Stmt} {rest A B : List Stmt} {pos : Pos} {out : κ → OutD}
theorem i_tup {tg : Expr} {enc : ι → PyData} {m : M (List ι)} (h : EJ X R Γ e (eT enc) m) : IJ X R Γ e tg enc m := by
  refine PI.weak (PI.fits (pi_tup h)) fun σ H Rr ⟨O, H0, ow, st, z, st', rel, ok, e, q⟩ => ⟨O, H0, ow, st, z, st', rel, ok, e, fun v H1 k o rp => ?_⟩
  cases rp with
  | @tup a vs _ na ha ra =>
    exact ⟨a, rfl, ⟨vs, SqT.of ha⟩, fun fit => q _ H1 k o (by have := fit a vs (.inr ha); rw [ra.length, List.length_map] at this; exact this) (itok_tup na ha ra)⟩
/-- lo, lo + 1, .. below hi -/
def irange (lo hi : Int) : List Int := (List.range (hi - lo).toNat).map fun i => lo + (i : Nat)
def rangeM (lo hi : Int) : M (List Int) := if -(2 ^ 61) ≤ lo ∧ lo ≤ 2 ^ 61 ∧ -(2 ^ 61) ≤ hi ∧ hi ≤ 2 ^ 61 ∧ (hi - lo).toNat ≤ sizeLine then pureM (irange lo hi) else failM
theorem itok_range {A : Av} {H1 : Hp} (lo : Int) (n : Nat) : ItOk (Itr lo n) A H1 (((List.range n).map fun i => lo + (i : Nat)).map eInt) := fun H i k => by
  refine ⟨fun hl => (by simpa using hl : n ≤ i), fun d hd => ?_⟩
  rw [List.getElem?_map, List.getElem?_map] at hd
  cases hr : (List.range n)[i]? with
  | none => rw [hr] at hd; cases hd
  | some j =>
    rw [hr] at hd
    have hi : i < n := by have := (List.getElem?_eq_some_iff.mp hr).1; simpa using this
    have hj : j = i := by rw [List.getElem?_range hi] at hr; cases hr; rfl
    subst hj
    have hd' : eInt (lo + (j : Nat)) = d := Option.some.inj hd
    subst hd'
    refine ⟨hi, fun v H' y => ?_⟩
    obtain ⟨rfl, rfl⟩ := y
    exact ⟨Same.refl _, fun A' _ _ => .int _⟩
theorem i_range1 {tg a : Expr} {p : Pos} {m : M Int} (hm : X.mg "range" = none) (ha : EJ X R Γ a eInt m) (hg : Gl X "range" := by rfl) (hs : starEach [a] X.env = [(false, eval a X.env)] := by rfl) : IJ X R Γ (.Call (.Name "range" p) [a] [] pos) tg eInt (bindM m fun n => rangeM 0 n) := by
  refine PI.weak (pi_range1 hg hm (pa_cons ha pa_nil hs) hs) fun σ H Rr ⟨O, H0, ow, st, z, st', rel, ok, e, q⟩ => ?_
  obtain ⟨n, s1, e1, e2⟩ := bind_some e
  unfold rangeM at e2
  obtain ⟨⟨h1, h2, h3, h4, h5⟩, rfl, rfl⟩ := if_some e2
  refine ⟨O, H0, ow, st, n, s1, rel, ok, e1, fun v H1 k o rp => ?_⟩
  cases rp
  refine ⟨n, rfl, by omega, by omega, q _ H1 k o (by simp [irange]; omega) ?_⟩
  have := itok_range (A := avo O Γ ow) (H1 := H1) 0 n.toNat
  simpa [irange] using this
theorem i_range2 {tg a b : Expr} {p : Pos} {ma mb : M Int} (hm : X.mg "range" = none) (ha : EJ X R Γ a eInt ma) (hb : EJ X R Γ b eInt mb) (hg : Gl X "range" := by rfl) (hs : starEach [a, b] X.env = [(false, eval a X.env), (false, eval b X.env)] := by rfl) (hs2 : starEach [b] X.env = [(false, eval b X.env)] := by rfl) :
    IJ X R Γ (.Call (.Name "range" p) [a, b] [] pos) tg eInt (bindM ma fun lo => bindM mb fun hi => rangeM lo hi) := by
  refine PI.weak (pi_range2 hg hm (pa_cons ha (pa_cons hb pa_nil hs2) (by rw [hs, hs2])) hs hs2) fun σ H Rr ⟨O, H0, ow, st, z, st', rel, ok, e, q⟩ => ?_
  obtain ⟨lo, s1, e1, e'⟩ := bind_some e
  obtain ⟨hi, s2, e2, e3⟩ := bind_some e'
  unfold rangeM at e3
  obtain ⟨⟨h1, h2, h3, h4, h5⟩, rfl, rfl⟩ := if_some e3
  refine ⟨O, H0, ow, st, lo, s1, rel, ok, e1, fun v H1 k o rp => ?_⟩
  cases rp
  refine ⟨O, H0, ow, s1, hi, s2, rel.grow k (okZ o), o, e2, fun v H2 k2 o2 rp => ?_⟩
  cases rp
  refine ⟨lo, hi, rfl, ⟨by omega, by omega, by omega, by omega⟩, q _ H2 (k.trans k2) o2 (by simp [irange]; omega) ?_⟩
  exact itok_range (A := avo O Γ ow) (H1 := H2) lo (hi - lo).toNat
theorem i_low {tg : Expr} {enc : ι → PyData} {m : M (List ι)} (hl : Low Γ Γ') (h : IJ X R Γ' e tg enc m) (hn : ∀ (i : Nat) (d : PyData), Γ[i]? = some (.ow d) → Γ'[i]? = some (.ow d)) : IJ X R Γ e tg enc m :=
  PI.weak h fun σ H Rr ⟨O, H0, ow, st, z, st', rel, ok, e, q⟩ => ⟨O, H0, ow, st, z, st', rel.low hl, ok, e, fun J H1 k o l it => q J H1 k o l (by
    have : avo O Γ' ow = avo O Γ ow := funext fun a => propext ⟨hl.avo a, fun z => by
      rcases z with z | ⟨i, d, e1, e2⟩
      · exact .inl z
      · exact .inr ⟨i, d, hn i d e1, e2⟩⟩
    rw [← this]; exact it)⟩

/-! ### targets -/
/-- what a target does with x: the slots; is: the places it sets -/
def tG (set : List Slot → ι → List Slot) (is : List Nat) (enc : ι → PyData) : TG := fun v σ H Q => ∃ R O H0 ow Γ x, Rel R O H0 ow Γ σ H ∧ Rp (avo O Γ ow) H v (enc x) ∧
  ∀ σ', Rel R O H0 ow (set Γ x) σ' H → (∀ vs : List Nat, (∀ i ∈ is, i ∈ vs) → wipe σ' vs = wipe σ vs) → Q σ' H
abbrev GJ (X : Cx) (tg : Expr) (set : List Slot → ι → List Slot) (is : List Nat) (enc : ι → PyData) : Prop := PG X tg (tG set is enc)
theorem wipe_at {σ : L2.St} : ∀ {vs : List Nat} {i : Nat} {y : Option V}, i ∈ vs → wipe (σ.set i y) vs = wipe σ vs
  | [], _, _, h => by simp at h
  | v :: vs, i, y, h => by
    unfold wipe
    by_cases hm : i ∈ vs
    · rw [wipe_at hm]
    · have hv : i = v := by rcases List.mem_cons.mp h with e | e; exact e; exact absurd e hm
      subst hv
      have aux : ∀ ws : List Nat, (wipe (σ.set i y) ws).set i none = (wipe σ ws).set i none := by
        intro ws
        induction ws with
        | nil => unfold wipe; rw [List.set_set]
        | cons w ws ih =>
          unfold wipe
          by_cases hw : w = i
          · subst hw; rw [List.set_set, List.set_set]; exact ih
          · rw [List.set_comm _ _ hw, ih, List.set_comm _ _ (fun z => hw z.symm)]
      exact aux vs
theorem g_name (i : Nat) {x : Str} (enc : ι → PyData) (hN : X.N.Nodup) (hi : X.N[i]? = some x := by rfl) (hx : Loc X.env.scope x := by first | exact Or.inl rfl | exact Or.inr rfl)
    (hf : X.fn x = true ∨ X.env.scope.names.lookup x = some .local := by first | exact .inl rfl | exact .inr rfl) : GJ X (.Name x pos) (fun Γ y => Γ.set i (.fz (enc y))) [i] enc := by
  refine PG.weak (pg_name hN hi hx hf) fun v σ H Q ⟨R, O, H0, ow, Γ, x, rel, rp, q⟩ => ?_
  exact q _ (rel.setFz i rp) fun vs hv => wipe_at (hv i (List.mem_singleton.mpr rfl))
/-- targets one after the other -/
def tGs {α : Type} (set : List Slot → α → List Slot) (is : List Nat) (enc : α → List PyData) : TGs := fun vs σ H Q => ∃ R O H0 ow Γ x, Rel R O H0 ow Γ σ H ∧ RpAll (avo O Γ ow) H vs (enc x) ∧
  ∀ σ', Rel R O H0 ow (set Γ x) σ' H → (∀ vs : List Nat, (∀ i ∈ is, i ∈ vs) → wipe σ' vs = wipe σ vs) → Q σ' H
theorem PGs.weak {es : List Expr} {t t' : TGs} (h : PGs X es t) (w : ∀ vs σ H Q, t' vs σ H Q → t vs σ H Q) : PGs X es t' := ⟨fun pins s σ H vs us Q I r q => h.run pins s σ H vs us Q I r (w vs σ H Q q)⟩
theorem gs_nil : PGs X [] (tGs (fun Γ (_ : Unit) => Γ) [] eU) := by
  refine PGs.weak pgs_nil fun vs σ H Q ⟨R, O, H0, ow, Γ, x, rel, rp, q⟩ => ?_
  cases rp
  exact ⟨rfl, q σ rel fun _ _ => rfl⟩
theorem gs_cons {tg : Expr} {es : List Expr} {s1 : List Slot → α → List Slot} {s2 : List Slot → β → List Slot} {is js : List Nat} {enc : α → PyData} {en : β → List PyData} (h1 : GJ X tg s1 is enc) (h2 : PGs X es (tGs s2 js en)) (hset : ∀ Γ x (i : Nat) d, (s1 Γ x)[i]? = some (.ow d) → Γ[i]? = some (.ow d))
    (hs : (assignEach (tg :: es) X.env).map (·.2) = assign tg X.env :: (assignEach es X.env).map (·.2) := by rfl) : PGs X (tg :: es) (tGs (fun Γ (p : α × β) => s2 (s1 Γ p.1) p.2) (is ++ js) (eC enc en)) := by
  refine PGs.weak (pgs_cons h1 h2 hs) fun vs σ H Q ⟨R, O, H0, ow, Γ, x, rel, rp, q⟩ => ?_
  cases rp with
  | @cons v vs d ds r1 r2 =>
    refine ⟨v, vs, rfl, R, O, H0, ow, Γ, x.1, rel, r1, fun σ' rel' w' => ⟨R, O, H0, ow, _, x.2, rel', ?_, fun σ2 rel2 w2 => q σ2 rel2 fun vs hv => ?_⟩⟩
    · exact r2.less fun a z => by
        rcases z with z | ⟨i, d, e1, e2⟩
        · exact .inl z
        · exact .inr ⟨i, d, hset _ _ _ _ e1, e2⟩
    · rw [w2 vs fun i hi => hv i (List.mem_append_right _ hi), w' vs fun i hi => hv i (List.mem_append_left _ hi)]
theorem set_noow {Γ : List Slot} {i : Nat} {d' : PyData} : ∀ (j : Nat) (d : PyData), (Γ.set i (.fz d'))[j]? = some (.ow d) → Γ[j]? = some (.ow d) := fun j d e => by
  by_cases h : i = j
  · subst h
    rw [List.getElem?_set_self'] at e
    cases h : Γ[i]? <;> rw [h] at e <;> cases e
  · rw [List.getElem?_set_ne h] at e; exact e
theorem g_tup {es : List Expr} {k n : Nat} {set : List Slot → α → List Slot} {is : List Nat} {en : α → List PyData} (hc : X.calm = true) (h : PGs X es (tGs set is en)) (hl : ∀ x, (en x).length = n := by intro _; rfl) (hn : (assignEach es X.env).length = n := by rfl)
    (hst : (assignEach es X.env).findIdx? (·.1) = none := by rfl) : GJ X (.Tuple es k pos) set is (eP en) := by
  refine PG.weak (pg_tup hc h hn hst) fun v σ H Q ⟨R, O, H0, ow, Γ, x, rel, rp, q⟩ => ?_
  cases rp with
  | @tup a vs _ na ha ra =>
    exact ⟨a, vs, rfl, SqT.of ha, by rw [ra.length]; exact hl x, R, O, H0, ow, Γ, x, rel, ra, q⟩

/-! ### for -/
theorem q_for {set : List Slot → ι → List Slot} {is : List Nat} {tg iter : Expr} {body : List Stmt} {mi : M (List ι)} (Γb : β → List Slot) (b0 : β) (f : β → ι → M β) (hp : PassesOwn (model X.prog X.w) X.A X.env X.xe) (hc : X.calm = true)
    (hi : IJ X R Γ iter tg ei mi) (hg : GJ X tg set is ei) (hset : ∀ Γ x (i : Nat) d, (set Γ x)[i]? = some (.ow d) → Γ[i]? = some (.ow d)) (hlow : Low Γ (Γb b0))
    (hb : ∀ b x, SJ X R (set (Γb b) x) body (fun b' => .nx (Γb b')) (f b x)) (hs : ∀ x, foldedSetIterable iter X.env x = pure x := by intro _; rfl) :
    QJ X R Γ (.For tg iter body [] pos) (fun b => .nx (Γb b)) (bindM mi fun xs => forM' f xs b0) := by
  refine PS.weak (ps_for hp hc hi hg (PSs.ex fun b => PSs.ex fun x => hb b x) hs) fun D σ H ⟨O, H0, ow, st, bf, stf, rel, ok, e, q⟩ => ?_
  obtain ⟨xs, s1, e1, e2⟩ := bind_some e
  refine ⟨O, H0, ow, st, xs, s1, rel, ok, e1, fun J H1 k1 o1 hlen it => ?_⟩
  have rel1 := rel.grow k1 (okZ o1)
  refine ⟨fun i m σ' H' => m = xs.length - i ∧ i ≤ xs.length ∧ ∃ b u ow', Rel R O H0 ow' (Γb b) σ' H' ∧ okR R u H' ∧ forM' f (xs.drop i) b u = some (bf, stf) ∧ Step O Γ ow H1 (Γb b) ow' H', ⟨_, rfl, Nat.zero_le _, b0, s1, ow, rel1.low hlow, o1, e2, Step.refl.lowR hlow⟩, ?_⟩
  rintro i m σ' H' ⟨rfl, hile, b, u, ow', rel', ok', ef, sp⟩
  obtain ⟨stop, go⟩ := it H' i sp.keep
  by_cases hlt : i < xs.length
  · have hx : xs[i]? = some xs[i] := List.getElem?_eq_getElem hlt
    obtain ⟨hgo, hy⟩ := go (ei xs[i]) (by rw [List.getElem?_map, hx]; rfl)
    rw [List.drop_eq_getElem_cons hlt] at ef
    obtain ⟨b2, u2, ef1, ef2⟩ := bind_some (show bindM (f b xs[i]) (fun b' => forM' f (xs.drop (i + 1)) b') u = some (bf, stf) from ef)
    refine .inr ⟨hgo, fun σ2 H2 => ∃ ow2, Rel R O H0 ow2 (Γb b2) σ2 H2 ∧ okR R u2 H2 ∧ Step O Γ ow H1 (Γb b2) ow2 H2, fun σ2 H2 ⟨ow2, r2, o2, p2⟩ => ⟨_, by omega, rfl, hlt, b2, u2, ow2, r2, o2, ef2, p2⟩, fun v H2 y => ?_⟩
    obtain ⟨same, rp⟩ := hy v H2 y
    have relg := rel'.grow (Keep.of_same same) (fun a z => by
      have := rel'.odom a (rel'.zsub a z)
      cases h : H' a with
      | none => exact absurd h this
      | some o => rw [same a o h]; simp)
    refine ⟨R, O, H0, ow', Γb b, xs[i], relg, rp _ (fun a o na ea z => ?_) rel'.ad, fun σ3 rel3 _ => ⟨b, xs[i], O, H0, ow', u, b2, u2, rel3, ok'.same same, ef1, fun ow4 σ4 H4 rel4 ok4 sp4 => ⟨ow4, rel4, ok4, ?_⟩⟩⟩
    · rcases z with z | ⟨j, d, e3, e4⟩
      · exact na (.inl z)
      · rcases sp.sub j d e3 with z | z
        · exact na (by rw [← e4]; exact z)
        · rw [e4, ea] at z; cases z
    · have avs : ∀ a, avo O (set (Γb b) xs[i]) ow' a → avo O (Γb b) ow' a := fun a z => by
        rcases z with z | ⟨j, d, e3, e4⟩
        · exact .inl z
        · exact .inr ⟨j, d, hset _ _ _ _ e3, e4⟩
      have sp5 : Step O (Γb b) ow' H' (Γb b2) ow4 H4 := Step.pre (Keep.of_same same) ⟨sp4.keep.mono avs, fun j d e3 => by
        rcases sp4.sub j d e3 with z | z
        · exact .inl (avs _ z)
        · exact .inr z⟩
      exact sp.trans sp5
  · have hi' : i = xs.length := by omega
    subst hi'
    refine .inl ⟨stop (by simp), ?_⟩
    rw [List.drop_length] at ef
    obtain ⟨rfl, rfl⟩ := pure_some (show pureM b u = some (bf, stf) from ef)
    exact q ow' σ' H' rel' ok' (sp.pre (rel.keepA k1))
/-- a loop that may return -/
theorem q_forO {set : List Slot → ι → List Slot} {is : List Nat} {tg iter : Expr} {body : List Stmt} {mi : M (List ι)} (Γb : β → List Slot) (b0 : β) (f : β → ι → M (Out ρ β)) (hp : PassesOwn (model X.prog X.w) X.A X.env X.xe) (hc : X.calm = true)
    (hi : IJ X R Γ iter tg ei mi) (hg : GJ X tg set is ei) (hset : ∀ Γ x (i : Nat) d, (set Γ x)[i]? = some (.ow d) → Γ[i]? = some (.ow d)) (hlow : Low Γ (Γb b0))
    (hb : ∀ b x, SJ X R (set (Γb b) x) body (outO er Γb) (f b x)) (hs : ∀ x, foldedSetIterable iter X.env x = pure x := by intro _; rfl) :
    QJ X R Γ (.For tg iter body [] pos) (outO er Γb) (bindM mi fun xs => forO f xs b0) := by
  refine PS.weak (ps_for hp hc hi hg (PSs.ex fun b => PSs.ex fun x => hb b x) hs) fun D σ H ⟨O, H0, ow, st, bf, stf, rel, ok, e, q⟩ => ?_
  obtain ⟨xs, s1, e1, e2⟩ := bind_some e
  refine ⟨O, H0, ow, st, xs, s1, rel, ok, e1, fun J H1 k1 o1 hlen it => ?_⟩
  have rel1 := rel.grow k1 (okZ o1)
  refine ⟨fun i m σ' H' => m = xs.length - i ∧ i ≤ xs.length ∧ ∃ b u ow', Rel R O H0 ow' (Γb b) σ' H' ∧ okR R u H' ∧ forO f (xs.drop i) b u = some (bf, stf) ∧ Step O Γ ow H1 (Γb b) ow' H', ⟨_, rfl, Nat.zero_le _, b0, s1, ow, rel1.low hlow, o1, e2, Step.refl.lowR hlow⟩, ?_⟩
  rintro i m σ' H' ⟨rfl, hile, b, u, ow', rel', ok', ef, sp⟩
  obtain ⟨stop, go⟩ := it H' i sp.keep
  by_cases hlt : i < xs.length
  · have hx : xs[i]? = some xs[i] := List.getElem?_eq_getElem hlt
    obtain ⟨hgo, hy⟩ := go (ei xs[i]) (by rw [List.getElem?_map, hx]; rfl)
    rw [List.drop_eq_getElem_cons hlt] at ef
    rw [forO] at ef
    obtain ⟨o2, u2, ef1, ef2⟩ := bind_some ef
    refine .inr ⟨hgo, fun σ2 H2 => ∃ b2 ow2, o2 = .nx b2 ∧ Rel R O H0 ow2 (Γb b2) σ2 H2 ∧ okR R u2 H2 ∧ Step O Γ ow H1 (Γb b2) ow2 H2, fun σ2 H2 ⟨b2, ow2, eo, r2, o2, p2⟩ => ⟨_, by omega, rfl, hlt, b2, u2, ow2, r2, o2, by subst eo; exact ef2, p2⟩, fun v H2 y => ?_⟩
    obtain ⟨same, rp⟩ := hy v H2 y
    have relg := rel'.grow (Keep.of_same same) (fun a z => by
      have := rel'.odom a (rel'.zsub a z)
      cases h : H' a with
      | none => exact absurd h this
      | some o => rw [same a o h]; simp)
    refine ⟨R, O, H0, ow', Γb b, xs[i], relg, rp _ (fun a o na ea z => ?_) rel'.ad, fun σ3 rel3 _ => ⟨b, xs[i], O, H0, ow', u, o2, u2, rel3, ok'.same same, ef1, ?_⟩⟩
    · rcases z with z | ⟨j, d, e3, e4⟩
      · exact na (.inl z)
      · rcases sp.sub j d e3 with z | z
        · exact na (by rw [← e4]; exact z)
        · rw [e4, ea] at z; cases z
    · have avs : ∀ a, avo O (set (Γb b) xs[i]) ow' a → avo O (Γb b) ow' a := fun a z => by
        rcases z with z | ⟨j, d, e3, e4⟩
        · exact .inl z
        · exact .inr ⟨j, d, hset _ _ _ _ e3, e4⟩
      cases o2 with
      | nx b2 =>
        refine fun ow4 σ4 H4 rel4 ok4 sp4 => ⟨b2, ow4, rfl, rel4, ok4, ?_⟩
        have sp5 : Step O (Γb b) ow' H' (Γb b2) ow4 H4 := Step.pre (Keep.of_same same) ⟨sp4.keep.mono avs, fun j d e3 => by
          rcases sp4.sub j d e3 with z | z
          · exact .inl (avs _ z)
          · exact .inr z⟩
        exact sp.trans sp5
      | rt r =>
        obtain ⟨rfl, rfl⟩ := pure_some (show pureM (Out.rt r) u2 = some (bf, stf) from ef2)
        exact q
  · have hi' : i = xs.length := by omega
    subst hi'
    refine .inl ⟨stop (by simp), ?_⟩
    rw [List.drop_length] at ef
    obtain ⟨rfl, rfl⟩ := pure_some (show pureM (Out.nx b) u = some (bf, stf) from ef)
    exact q ow' σ' H' rel' ok' (sp.pre (rel.keepA k1))
/-! ### while -/
theorem q_while {body : List Stmt} (Γb : β → List Slot) (b0 : β) (n : Nat) (mc : β → M Bool) (f : β → M β) (hp : PassesOwn (model X.prog X.w) X.A X.env X.xe) (hlow : Low Γ (Γb b0))
    (hc : ∀ b, TJ X R (Γb b) c (mc b)) (hb : ∀ b, SJ X R (Γb b) body (fun b' => .nx (Γb b')) (f b)) : QJ X R Γ (.While c body [] pos) (fun b => .nx (Γb b)) (whileM mc f n b0) := by
  refine PS.weak (ps_while hp (PT.ex hc) (PSs.ex hb)) fun D σ H ⟨O, H0, ow, st, bf, stf, rel, ok, e, q⟩ => ?_
  refine ⟨fun m σ' H' => ∃ b u ow', Rel R O H0 ow' (Γb b) σ' H' ∧ okR R u H' ∧ whileM mc f m b u = some (bf, stf) ∧ Step O Γ ow H (Γb b) ow' H', ⟨n, b0, st, ow, rel.low hlow, ok, e, Step.refl.lowR hlow⟩, ?_⟩
  rintro m σ' H' ⟨b, u, ow', rel', ok', ef, sp⟩
  cases m with
  | zero => cases ef
  | succ m =>
    obtain ⟨k, u2, ef1, ef2⟩ := bind_some (show bindM (mc b) (fun k => if k then bindM (f b) fun b' => whileM mc f m b' else pureM b) u = some (bf, stf) from ef)
    refine ⟨b, O, H0, ow', u, k, u2, rel', ok', ef1, fun H2 k2 o2 => ?_⟩
    have rel2 := rel'.grow k2 (okZ o2)
    cases k with
    | true =>
      obtain ⟨b3, u3, ef3, ef4⟩ := bind_some (show bindM (f b) (fun b' => whileM mc f m b') u2 = some (bf, stf) from ef2)
      refine L2.iteT ⟨fun σ3 H3 => ∃ ow3, Rel R O H0 ow3 (Γb b3) σ3 H3 ∧ okR R u3 H3 ∧ Step O Γ ow H (Γb b3) ow3 H3, fun σ3 H3 ⟨ow3, r3, o3, p3⟩ => ⟨m, Nat.lt_succ_self m, b3, u3, ow3, r3, o3, ef4, p3⟩, b, O, H0, ow', u2, b3, u3, rel2, o2, ef3, fun ow4 σ4 H4 rel4 ok4 sp4 => ⟨ow4, rel4, ok4, sp.trans (sp4.pre (rel'.keepA k2))⟩⟩
    | false =>
      obtain ⟨rfl, rfl⟩ := pure_some (show pureM b u2 = some (bf, stf) from ef2)
      refine L2.iteF ?_
      exact q ow' σ' H2 rel2 o2 (sp.trans (Step.refl.pre (rel'.keepA k2)))
end
end Pz

namespace Pz
open PySem PySem.Spec PyProof.Rows L2

section
variable {α β γ κ ρ ι : Type} {ea : α → PyData} {ec : γ → PyData} {er : ρ → PyData} {ei : ι → PyData} {X : Cx} {R : Res} {Γ Γ' : List Slot} {e c : Expr} {st : Stmt} {rest A B : List Stmt} {pos : Pos} {out : κ → OutD}
/-! ### comprehensions -/
def compM (c : ι → M Bool) (f : ι → M γ) : List ι → M (List γ)
  | [] => pureM []
  | x :: xs => bindM (c x) fun b => if b then bindM (f x) fun y => bindM (compM c f xs) fun ys => pureM (y :: ys) else compM c f xs
def wipeG (Γ : List Slot) : List Nat → List Slot
  | [] => Γ
  | v :: vs => (wipeG Γ vs).set v .un
theorem wipeG_length : ∀ vs : List Nat, (wipeG Γ vs).length = Γ.length
  | [] => rfl
  | v :: vs => by unfold wipeG; rw [List.length_set, wipeG_length vs]
theorem wipeG_at {i : Nat} : ∀ {vs : List Nat}, i ∉ vs → (wipeG Γ vs)[i]? = Γ[i]?
  | [], _ => rfl
  | v :: vs, h => by
    simp only [List.mem_cons, not_or] at h
    unfold wipeG
    rw [List.getElem?_set_ne (fun z => h.1 z.symm)]
    exact wipeG_at h.2
theorem wipeG_in {i : Nat} {s : Slot} : ∀ {vs : List Nat}, i ∈ vs → (wipeG Γ vs)[i]? = some s → s = .un
  | [], h, _ => by simp at h
  | v :: vs, h, e => by
    unfold wipeG at e
    by_cases hv : v = i
    · subst hv
      rw [List.getElem?_set_self'] at e
      cases q : (wipeG Γ vs)[v]? with
      | none => rw [q] at e; cases e
      | some u => rw [q] at e; cases e; rfl
    · rw [List.getElem?_set_ne hv] at e
      rcases List.mem_cons.mp h with z | z
      · exact absurd z.symm hv
      · exact wipeG_in z e
theorem wipe_eq {σ : L2.St} {i : Nat} : ∀ {vs : List Nat}, i ∉ vs → (wipe σ vs)[i]? = σ[i]?
  | [], _ => rfl
  | v :: vs, h => by
    simp only [List.mem_cons, not_or] at h
    unfold wipe
    rw [List.getElem?_set_ne (fun z => h.1 z.symm)]
    exact wipe_eq h.2
theorem wipe_none {σ : L2.St} : ∀ {vs : List Nat} {i : Nat}, i ∈ vs → i < σ.length → (wipe σ vs)[i]? = some none
  | [], _, h, _ => by simp at h
  | v :: vs, i, h, hl => by
    unfold wipe
    by_cases hv : v = i
    · subst hv
      exact List.getElem?_set_self (by rw [wipe_length]; exact hl)
    · rw [List.getElem?_set_ne hv]
      rcases List.mem_cons.mp h with z | z
      · exact absurd z.symm hv
      · exact wipe_none z hl
theorem wipe_idem (σ : L2.St) (vs : List Nat) : wipe (wipe σ vs) vs = wipe σ vs := by
  apply List.ext_getElem?
  intro i
  by_cases h : i ∈ vs
  · by_cases hl : i < σ.length
    · rw [wipe_none h (by rw [wipe_length]; exact hl), wipe_none h hl]
    · rw [List.getElem?_eq_none (by rw [wipe_length, wipe_length]; omega), List.getElem?_eq_none (by rw [wipe_length]; omega)]
  · rw [wipe_eq h]
theorem Rel.wipe {O : Av} {H0 H : Hp} {ow : Nat → Addr} {σ : L2.St} (r : Rel R O H0 ow Γ σ H) (vs : List Nat) (hv : ∀ i ∈ vs, ∀ d, Γ[i]? ≠ some (.ow d)) : Rel R O H0 ow (wipeG Γ vs) (L2.wipe σ vs) H ∧ Pz.avo O (wipeG Γ vs) ow = Pz.avo O Γ ow := by
  have back : ∀ (i : Nat) (s : Slot), (wipeG Γ vs)[i]? = some s → s ≠ .un → i ∉ vs ∧ Γ[i]? = some s := fun i s e n => by
    by_cases h : i ∈ vs
    · exact absurd (wipeG_in h e) n
    · rw [wipeG_at h] at e; exact ⟨h, e⟩
  have av : Pz.avo O (wipeG Γ vs) ow = Pz.avo O Γ ow := funext fun a => propext ⟨fun z => by
      rcases z with z | ⟨i, d, e, q⟩
      · exact .inl z
      · exact .inr ⟨i, d, (back i _ e (by simp)).2, q⟩, fun z => by
      rcases z with z | ⟨i, d, e, q⟩
      · exact .inl z
      · exact .inr ⟨i, d, by rw [wipeG_at (fun h => hv i h d e)]; exact e, q⟩⟩
  refine ⟨⟨by rw [wipeG_length, wipe_length]; exact r.len, fun i d e => ?_, fun i d e => ?_, fun i e => ?_, fun i j d d' e1 e2 => r.hinj i j d d' (back i _ e1 (by simp)).2 (back j _ e2 (by simp)).2, r.same, r.zsub, r.odom⟩, av⟩
  · obtain ⟨h1, h2⟩ := back i _ e (by simp)
    rw [wipe_eq h1, av]; exact r.hfz i d h2
  · obtain ⟨h1, h2⟩ := back i _ e (by simp)
    rw [wipe_eq h1, av]; exact r.how i d h2
  · obtain ⟨h1, h2⟩ := back i _ e (by simp)
    rw [wipe_eq h1]; exact r.hsrc i h2
/-- one place more that is not looked at -/
theorem Rel.addO {O : Av} {H0 H : Hp} {ow : Nat → Addr} {σ : L2.St} (r : Rel R O H0 ow Γ σ H) {D : Addr} (n : H D = none) (o : HO) : Rel R (avp O D) H0 ow Γ σ (upd H D o) ∧ H0 D = none := by
  have nA : ¬ Pz.avo O Γ ow D := r.ad.fresh n
  have n0 : H0 D = none := by
    cases h : H0 D with
    | none => rfl
    | some u =>
      by_cases z1 : Zr R D
      · exact absurd (r.zavo z1) nA
      · rw [r.same D u z1 h] at n; cases n
  have k : Keep (Pz.avo O Γ ow) H (upd H D o) := fun a u _ e => by rw [upd_ne (ne_of_none e n)]; exact e
  have less : ∀ a, Pz.avo (avp O D) Γ ow a → avp (Pz.avo O Γ ow) D a := fun a z => by
    rcases z with (z | z) | ⟨i, d, e, q⟩
    · exact .inl (.inl z)
    · exact .inr z
    · exact .inl (.inr ⟨i, d, e, q⟩)
  refine ⟨⟨r.len, fun i d e => ?_, fun i d e => ?_, r.hsrc, r.hinj, fun a u z e => ?_, fun a z => .inl (r.zsub a z), fun a z => ?_⟩, n0⟩
  · obtain ⟨v, a, b⟩ := r.hfz i d e
    exact ⟨v, a, (b.at n k).less less⟩
  · obtain ⟨a, b, c, f⟩ := r.how i d e
    have ne : ow i ≠ D := fun z => nA (.inr ⟨i, d, e, z⟩)
    refine ⟨a, ?_, fun z => z.elim c ne, f⟩
    cases d with
    | list ds => obtain ⟨vs, q1, q2⟩ := b; exact ⟨vs, by rw [upd_ne ne]; exact q1, (q2.at n k).less less⟩
    | _ => exact b.elim
  · rw [upd_ne (fun q => by rw [q, n0] at e; cases e)]; exact r.same a u z e
  · by_cases q : a = D
    · rw [q, upd_same]; simp
    · rcases z with z | z
      · rw [upd_ne q]; exact r.odom a z
      · exact absurd z q
theorem Rel.updO {O : Av} {H0 H : Hp} {ow : Nat → Addr} {σ : L2.St} (r : Rel R O H0 ow Γ σ H) {D : Addr} (hD : O D) (n0 : H0 D = none) (o : HO) : Rel R O H0 ow Γ σ (upd H D o) := by
  have k : Keep (Pz.avo O Γ ow) H (upd H D o) := fun a u na e => by rw [upd_ne (fun z => na (.inl (by rw [z]; exact hD)))]; exact e
  refine ⟨r.len, fun i d e => ?_, fun i d e => ?_, r.hsrc, r.hinj, fun a u z e => ?_, r.zsub, fun a z => ?_⟩
  · obtain ⟨v, a, b⟩ := r.hfz i d e
    exact ⟨v, a, b.keep k⟩
  · obtain ⟨a, b, c, f⟩ := r.how i d e
    exact ⟨a, b.keep k fun o' q => by rw [upd_ne (fun z => c (by rw [z]; exact hD))]; exact q, c, f⟩
  · rw [upd_ne (fun q => by rw [q, n0] at e; cases e)]; exact r.same a u z e
  · by_cases q : a = D
    · rw [q, upd_same]; simp
    · rw [upd_ne q]; exact r.odom a z
theorem PTs.weak {ifs : List Expr} {t t' : TT} (h : PTs X ifs t) (w : ∀ σ H Q, t' σ H Q → t σ H Q) : PTs X ifs t' := ⟨fun pins s σ H Q I q => h.run pins s σ H Q I (w σ H Q q)⟩
theorem PTs.ex {ι : Type} {ifs : List Expr} {t : ι → TT} (h : ∀ x, PTs X ifs (t x)) : PTs X ifs (fun σ H Q => ∃ x, t x σ H Q) := ⟨fun pins s σ H Q I ⟨x, q⟩ => (h x).run pins s σ H Q I q⟩
abbrev CJ (X : Cx) (R : Res) (Γ : List Slot) (ifs : List Expr) (m : M Bool) : Prop := PTs X ifs (tT R Γ m)
theorem c_nil : CJ X R Γ [] (pureM true) := by
  refine PTs.weak pts_nil fun σ H Q ⟨O, H0, ow, st, z, st', rel, ok, e, q⟩ => ?_
  obtain ⟨rfl, rfl⟩ := pure_some e
  exact q H (Keep.refl H) ok
theorem c_one {m : M Bool} (h : TJ X R Γ c m) : CJ X R Γ [c] m := pts_one h
theorem lc_read {set : List Slot → ι → List Slot} {is vs : List Nat} {mi : M (List ι)} {mc : ι → M Bool} {f : ι → M γ} (hset : ∀ Γ x (i : Nat) d, (set Γ x)[i]? = some (.ow d) → Γ[i]? = some (.ow d))
    (hsm : ∀ Γ x (i : Nat), i ∉ is → (set Γ x)[i]? = Γ[i]?) (his : ∀ i ∈ is, i ∈ vs) (hvs : ∀ i ∈ vs, ∀ d, Γ[i]? ≠ some (.ow d)) {σ : L2.St} {H : Hp} {Q : VK} (h : tF R Γ ec (bindM mi fun xs => compM mc f xs) σ H Q) :
    tLc (tI R Γ ei mi) (tG set is ei) (fun σ H Q => ∃ x, tT R (set (wipeG Γ vs) x) (mc x) σ H Q) (fun σ H Q => ∃ x, tE R (set (wipeG Γ vs) x) ec (f x) σ H Q) vs σ H Q := by
  obtain ⟨O, H0, ow, st, r, st', rel, ok, e, q⟩ := h
  obtain ⟨xs, s1, e1, e2⟩ := bind_some e
  refine ⟨O, H0, ow, st, xs, s1, rel, ok, e1, fun J H1 k1 o1 hlen it => fun D nD => ?_⟩
  have rel1 := rel.grow k1 (okZ o1)
  obtain ⟨relw, av⟩ := rel1.wipe vs hvs
  obtain ⟨relD, n0⟩ := relw.addO nD (.lst [])
  have nZ : ¬ Zr R D := fun z => okZ o1 D z nD
  have nA : ¬ avo O Γ ow D := rel1.ad.fresh nD
  have avD : ∀ a, avo (avp O D) (wipeG Γ vs) ow a → avp (avo O Γ ow) D a := fun a z => by
    rcases z with (z | z) | z
    · exact .inl (.inl z)
    · exact .inr z
    · exact .inl (by rw [← av]; exact .inr z)
  have avL : ∀ a, avo O Γ ow a → avo (avp O D) (wipeG Γ vs) ow a := fun a z => by
    rw [← av] at z
    rcases z with z | z
    · exact .inl (.inl z)
    · exact .inr z
  refine ⟨fun i m H' => m = xs.length - i ∧ i ≤ xs.length ∧ ∃ u acc ys zs, Rel R (avp O D) H0 ow (wipeG Γ vs) (L2.wipe σ vs) H' ∧ okR R u H' ∧ H' D = some (.lst acc) ∧ RpAll (avo (avp O D) (wipeG Γ vs) ow) H' acc (ys.map ec) ∧
    compM mc f (xs.drop i) u = some (zs, st') ∧ r = ys ++ zs ∧ ys.length ≤ i ∧ Keep (Zr R) H1 H', ⟨_, rfl, Nat.zero_le _, s1, [], [], r, relD, o1.keep (fun a o z e => by rw [upd_ne (fun q => nZ (by rw [← q]; exact z))]; exact e), upd_same, .nil, e2, rfl, Nat.le_refl _, fun a o _ e => by rw [upd_ne (ne_of_none e nD)]; exact e⟩, ?_⟩
  rintro i m H' ⟨rfl, hile, u, acc, ys, zs, rel', ok', hD, racc, ef, rfl, hys, k'⟩
  have kA : Keep (avo O Γ ow) H1 H' := rel1.keepA k'
  obtain ⟨stop, go⟩ := it H' i kA
  by_cases hlt : i < xs.length
  · have hx : xs[i]? = some xs[i] := List.getElem?_eq_getElem hlt
    obtain ⟨hgo, hy⟩ := go (ei xs[i]) (by rw [List.getElem?_map, hx]; rfl)
    rw [List.drop_eq_getElem_cons hlt, compM] at ef
    obtain ⟨b, u2, ef1, ef2⟩ := bind_some ef
    refine .inr ⟨hgo, fun H2 => ∃ u acc ys' zs', Rel R (avp O D) H0 ow (wipeG Γ vs) (L2.wipe σ vs) H2 ∧ okR R u H2 ∧ H2 D = some (.lst acc) ∧ RpAll (avo (avp O D) (wipeG Γ vs) ow) H2 acc (ys'.map ec) ∧
      compM mc f (xs.drop (i + 1)) u = some (zs', st') ∧ ys ++ zs = ys' ++ zs' ∧ ys'.length ≤ i + 1 ∧ Keep (Zr R) H1 H2, fun H2 ⟨u', acc', ys', zs', a1, a2, a3, a4, a5, a6, a7, a8⟩ => ⟨_, by omega, rfl, hlt, u', acc', ys', zs', a1, a2, a3, a4, a5, a6, a7, a8⟩, fun v H2 y => ?_⟩
    obtain ⟨same, rp⟩ := hy v H2 y
    have relg := rel'.grow (Keep.of_same same) (fun a z => by
      have := rel'.odom a (rel'.zsub a z)
      cases h : H' a with
      | none => exact absurd h this
      | some o => rw [same a o h]; simp)
    refine ⟨R, avp O D, H0, ow, wipeG Γ vs, xs[i], relg, rp _ (fun a o na ea z => ?_) rel'.ad, fun σ3 rel3 w3 => ⟨(w3 vs his).trans (wipe_idem σ vs), xs[i], avp O D, H0, ow, u, b, u2, rel3, ok'.same same, ef1, fun H3 k3 o3 => ?_⟩⟩
    · rcases avD a z with z | z
      · exact na z
      · rw [z, nD] at ea; cases ea
    have hD3 : H3 D = some (.lst acc) := k3 _ _ nZ (same _ _ hD)
    have rel3' := rel3.grow k3 (okZ o3)
    have relH3 := relg.grow k3 (okZ o3)
    have kH3 : Keep (Zr R) H1 H3 := (k'.trans (Keep.of_same same)).trans k3
    have racc3 := (racc.keep (Keep.of_same same)).keep (relg.keepA k3)
    cases b with
    | false => exact L2.iteF ⟨u2, acc, ys, zs, relH3, o3, hD3, racc3, ef2, rfl, by omega, kH3⟩
    | true =>
      refine L2.iteT ⟨xs[i], avp O D, H0, ow, u2, ?_⟩
      obtain ⟨y, u3, ef3, ef4⟩ := bind_some (show bindM (f xs[i]) (fun y => bindM (compM mc f (xs.drop (i + 1))) fun ys => pureM (y :: ys)) u2 = some (zs, st') from ef2)
      obtain ⟨zs', u4, ef5, ef6⟩ := bind_some ef4
      obtain ⟨rfl, rfl⟩ := pure_some ef6
      refine ⟨y, u3, rel3', o3, ef3, fun w H4 k4 o4 rp4 => ?_⟩
      have hD4 : H4 D = some (.lst acc) := k4 _ _ nZ hD3
      have hacc : acc.length = ys.length := by have := racc.length; simpa using this
      refine ⟨acc, hD4, by omega, u3, acc ++ [w], ys ++ [y], zs', (relH3.grow k4 (okZ o4)).updO (.inr rfl) n0 _, o4.keep (fun a o z e => by rw [upd_ne (fun q => nZ (by rw [← q]; exact z))]; exact e), upd_same, ?_, ef5, by simp, by simp; omega, fun a o nz e => ?_⟩
      · have kD : Keep (avo (avp O D) (wipeG Γ vs) ow) H4 (upd H4 D (.lst (acc ++ [w]))) := fun a o na e => by rw [upd_ne (fun z => na (.inl (.inr z)))]; exact e
        rw [List.map_append]
        refine (((racc3.keep (relH3.keepA k4)).keep kD)).append (.cons ((rp4.less fun a z => ?_).keep kD) .nil)
        rcases z with z | ⟨j, d, e3, e4⟩
        · exact .inl z
        · refine .inr ⟨j, d, ?_, e4⟩
          rw [hsm _ _ j fun hj => absurd (wipeG_in (his j hj) e3) (by simp)]
          exact e3
      · rw [upd_ne (ne_of_none e nD)]; exact k4 _ _ nz (kH3 _ _ nz e)
  · have hi' : i = xs.length := by omega
    subst hi'
    refine .inl ⟨stop (by simp), ?_⟩
    rw [List.drop_length] at ef
    obtain ⟨rfl, rfl⟩ := pure_some (show pureM [] u = some (zs, st') from ef)
    rw [List.append_nil] at q
    refine q D acc H' ?_ (k1.trans k') ok' hD (racc.less fun a z => ?_)
    · exact noneK k1 o1 nD
    · rcases z with z | z
      · exact avL a z
      · exact .inl (.inr z)
theorem f_lc {set : List Slot → ι → List Slot} {is : List Nat} {mi : M (List ι)} {elt tg iter : Expr} {ifs : List Expr} {scope : Scope} (own : List (Str × Nat)) (mc : ι → M Bool) (f : ι → M γ) (hc : X.calm = true) (hN : X.N.Nodup)
    (hi : IJ X R Γ iter tg ei mi) (ok : BlkOk X.N X.env.scope scope own)
    (hg : ∀ (s : Shared) (H : Hp) (C : Addr) (cl : List (Str × Addr)) (fp : List Addr), GJ (X.blk s H scope (compEnvC scope cl C X.env) fp) tg set is ei)
    (ht : ∀ (s : Shared) (H : Hp) (C : Addr) (cl : List (Str × Addr)) (fp : List Addr) (x : ι), CJ (X.blk s H scope (compEnvC scope cl C X.env) fp) R (set (wipeG Γ (own.map (·.2))) x) ifs (mc x))
    (he : ∀ (s : Shared) (H : Hp) (C : Addr) (cl : List (Str × Addr)) (fp : List Addr) (x : ι), EJ (X.blk s H scope (compEnvC scope cl C X.env) fp) R (set (wipeG Γ (own.map (·.2))) x) elt ec (f x))
    (hset : ∀ Γ x (i : Nat) d, (set Γ x)[i]? = some (.ow d) → Γ[i]? = some (.ow d)) (hsm : ∀ Γ x (i : Nat), i ∉ is → (set Γ x)[i]? = Γ[i]?) (his : ∀ i ∈ is, i ∈ own.map (·.2)) (hvs : ∀ i ∈ own.map (·.2), ∀ d, Γ[i]? ≠ some (.ow d))
    (hs : ∀ x, foldedSetIterable iter X.env x = pure x := by intro _; rfl) : EF X R Γ (.ListComp elt [⟨tg, iter, ifs, 0⟩] scope pos) ec (bindM mi fun xs => compM mc f xs) :=
  PE.weak (pe_lc hc hN hi ok hg (fun s H C cl fp => PTs.ex fun x => ht s H C cl fp x) (fun s H C cl fp => PE.ex fun x => he s H C cl fp x) hs) fun σ H Q h => lc_read hset hsm his hvs h
/-- name = [..] on one line, the name a local -/
theorem q_setLc (i : Nat) {y : Str} {py spos : Pos} {set : List Slot → ι → List Slot} {is : List Nat} {mi : M (List ι)} {elt tg iter : Expr} {ifs : List Expr} {scope : Scope} (own : List (Str × Nat)) (mc : ι → M Bool) (f : ι → M γ) (hc : X.calm = true) (hN : X.N.Nodup)
    (hsw : swapsWith (.ListComp elt [⟨tg, iter, ifs, 0⟩] scope pos) (some (.Name y py)) spos.line X.env = pure true)
    (hi : IJ X R Γ iter tg ei mi) (ok : BlkOk X.N X.env.scope scope own)
    (hg : ∀ (s : Shared) (H : Hp) (C : Addr) (cl : List (Str × Addr)) (fp : List Addr), GJ (X.blk s H scope (compEnvC scope cl C X.env) fp) tg set is ei)
    (ht : ∀ (s : Shared) (H : Hp) (C : Addr) (cl : List (Str × Addr)) (fp : List Addr) (x : ι), CJ (X.blk s H scope (compEnvC scope cl C X.env) fp) R (set (wipeG Γ (own.map (·.2))) x) ifs (mc x))
    (he : ∀ (s : Shared) (H : Hp) (C : Addr) (cl : List (Str × Addr)) (fp : List Addr) (x : ι), EJ (X.blk s H scope (compEnvC scope cl C X.env) fp) R (set (wipeG Γ (own.map (·.2))) x) elt ec (f x))
    (hset : ∀ Γ x (i : Nat) d, (set Γ x)[i]? = some (.ow d) → Γ[i]? = some (.ow d)) (hsm : ∀ Γ x (i : Nat), i ∉ is → (set Γ x)[i]? = Γ[i]?) (his : ∀ i ∈ is, i ∈ own.map (·.2)) (hvs : ∀ i ∈ own.map (·.2), ∀ d, Γ[i]? ≠ some (.ow d))
    (hy : X.N[i]? = some y := by rfl) (hyl : X.env.scope.names.lookup y = some .local := by rfl) (hs : ∀ x, foldedSetIterable iter X.env x = pure x := by intro _; rfl) :
    QJ X R Γ (.Assign [.Name y py] (.ListComp elt [⟨tg, iter, ifs, 0⟩] scope pos) spos) (fun r => .nx (Γ.set i (.ow (eL ec r)))) (bindM mi fun xs => compM mc f xs) := by
  refine PS.weak (ps_setLc hc hN hy hyl hsw hi ok hg (fun s H C cl fp => PTs.ex fun x => ht s H C cl fp x) (fun s H C cl fp => PE.ex fun x => he s H C cl fp x) hs) fun D σ H h => ?_
  refine lc_read hset hsm his hvs ?_
  obtain ⟨O, H0, ow, st, z, st', rel, ok, e, q⟩ := h
  refine ⟨O, H0, ow, st, z, st', rel, ok, e, fun p vs H' n k o ep rp => ?_⟩
  obtain ⟨r1, s1⟩ := rel.setOw i n k (okZ o) ep rp
  exact q _ _ H' r1 o s1
/-- .. and it is only read from here on -/
theorem q_setLcE (i : Nat) {y : Str} {py spos : Pos} {set : List Slot → ι → List Slot} {is : List Nat} {mi : M (List ι)} {elt tg iter : Expr} {ifs : List Expr} {scope : Scope} (own : List (Str × Nat)) (mc : ι → M Bool) (f : ι → M γ) (hc : X.calm = true) (hN : X.N.Nodup)
    (hsw : swapsWith (.ListComp elt [⟨tg, iter, ifs, 0⟩] scope pos) (some (.Name y py)) spos.line X.env = pure true)
    (hi : IJ X R Γ iter tg ei mi) (ok : BlkOk X.N X.env.scope scope own)
    (hg : ∀ (s : Shared) (H : Hp) (C : Addr) (cl : List (Str × Addr)) (fp : List Addr), GJ (X.blk s H scope (compEnvC scope cl C X.env) fp) tg set is ei)
    (ht : ∀ (s : Shared) (H : Hp) (C : Addr) (cl : List (Str × Addr)) (fp : List Addr) (x : ι), CJ (X.blk s H scope (compEnvC scope cl C X.env) fp) R (set (wipeG Γ (own.map (·.2))) x) ifs (mc x))
    (he : ∀ (s : Shared) (H : Hp) (C : Addr) (cl : List (Str × Addr)) (fp : List Addr) (x : ι), EJ (X.blk s H scope (compEnvC scope cl C X.env) fp) R (set (wipeG Γ (own.map (·.2))) x) elt ec (f x))
    (hset : ∀ Γ x (i : Nat) d, (set Γ x)[i]? = some (.ow d) → Γ[i]? = some (.ow d)) (hsm : ∀ Γ x (i : Nat), i ∉ is → (set Γ x)[i]? = Γ[i]?) (his : ∀ i ∈ is, i ∈ own.map (·.2)) (hvs : ∀ i ∈ own.map (·.2), ∀ d, Γ[i]? ≠ some (.ow d))
    (hy : X.N[i]? = some y := by rfl) (hyl : X.env.scope.names.lookup y = some .local := by rfl) (hs : ∀ x, foldedSetIterable iter X.env x = pure x := by intro _; rfl) :
    QJ X R Γ (.Assign [.Name y py] (.ListComp elt [⟨tg, iter, ifs, 0⟩] scope pos) spos) (fun r => .nx (Γ.set i (.fz (eL ec r)))) (bindM mi fun xs => compM mc f xs) := by
  refine PS.weak (ps_setLc hc hN hy hyl hsw hi ok hg (fun s H C cl fp => PTs.ex fun x => ht s H C cl fp x) (fun s H C cl fp => PE.ex fun x => he s H C cl fp x) hs) fun D σ H h => ?_
  refine lc_read hset hsm his hvs ?_
  obtain ⟨O, H0, ow, st, z, st', rel, ok, e, q⟩ := h
  refine ⟨O, H0, ow, st, z, st', rel, ok, e, fun p vs H' n k o ep rp => ?_⟩
  exact q ow _ H' ((rel.grow k (okZ o)).setFz i (.lst (rel.ad.fresh n) ep (rp.less fun _ z => .inl z))) o (Step.setFz i _ (rel.keepA k))

/-! ### defs -/
/-- the promise: on the arguments en a it hands back what f a says -/
def SpM (en : α → List Slot) (er : ρ → PyData) (f : α → M ρ) : Sp := fun vs H Q _ => ∃ R O a st r st', (∀ x, Zr R x → O x) ∧ (∀ x, O x → H x ≠ none) ∧ okR R st H ∧ RpSs R O H vs (en a) ∧ f a st = some (r, st') ∧
  ∀ v H', Keep (Zr R) H H' → okR R st' H' → Rp O H' v (er r) → Q v H'
theorem RpSs.length {A : Av} {H : Hp} : ∀ {vs : List V} {l : List Slot}, RpSs R A H vs l → vs.length = l.length
  | _, [], h => by cases h; rfl
  | _, _ :: _, h => by cases h with | cons _ h2 => simp [RpSs.length h2]
theorem RpSs.get {A : Av} {H : Hp} : ∀ {vs : List V} {l : List Slot} {i : Nat} {s : Slot}, RpSs R A H vs l → l[i]? = some s → ∃ v, vs[i]? = some v ∧ RpS R A H v s
  | _, [], _, _, _, e => by simp at e
  | _, _ :: _, 0, _, h, e => by cases h with | cons h1 _ => simp at e; subst e; exact ⟨_, rfl, h1⟩
  | _, _ :: _, i + 1, _, h, e => by cases h with | cons _ h2 => simpa using RpSs.get h2 (by simpa using e)
/-- the slots at a def's entry -/
def entry (l : List Slot) (k : Nat) : List Slot := l ++ List.replicate k .un
theorem Rel.entry {O : Av} {H : Hp} {vs : List V} {l : List Slot} {N : List Str} (hl : RpSs R O H vs l) (hk : l.length ≤ N.length) (hz : ∀ x, Zr R x → O x) (hd : ∀ x, O x → H x ≠ none) : Rel R O H (fun _ => 0) (Pz.entry l (N.length - l.length)) (L2.start N vs) H := by
  have len := hl.length
  have noow : ∀ (i : Nat) (d : PyData), (Pz.entry l (N.length - l.length))[i]? ≠ some (.ow d) := fun i d e => by
    unfold Pz.entry at e
    by_cases h : i < l.length
    · rw [List.getElem?_append_left h] at e
      obtain ⟨v, _, r⟩ := hl.get e
      exact r
    · rw [List.getElem?_append_right (by omega)] at e
      have := List.mem_of_getElem? e
      rw [List.mem_replicate] at this
      cases this.2
  have at_ : ∀ {i : Nat} {s : Slot}, (Pz.entry l (N.length - l.length))[i]? = some s → s ≠ .un → ∃ v, (L2.start N vs)[i]? = some (some v) ∧ RpS R O H v s := fun {i s} e n => by
    unfold Pz.entry at e
    by_cases h : i < l.length
    · rw [List.getElem?_append_left h] at e
      obtain ⟨v, a, r⟩ := hl.get e
      refine ⟨v, ?_, r⟩
      unfold L2.start
      rw [List.getElem?_append_left (by rw [List.length_map]; omega), List.getElem?_map, a]
      rfl
    · rw [List.getElem?_append_right (by omega)] at e
      have := List.mem_of_getElem? e
      rw [List.mem_replicate] at this
      exact absurd this.2 n
  refine ⟨?_, fun i d e => ?_, fun i d e => absurd e (noow i d), fun i e => ?_, fun i j d d' e => absurd e (noow i d), Keep.refl H, hz, hd⟩
  · unfold Pz.entry L2.start
    simp only [List.length_append, List.length_replicate, List.length_map]
    omega
  · obtain ⟨v, a, r⟩ := at_ e (by simp)
    exact ⟨v, a, Rp.less (show Rp O H v d from r) fun x z => by
      rcases z with z | ⟨j, d', e', _⟩
      · exact z
      · exact absurd e' (noow j d')⟩
  · obtain ⟨v, a, b, c, e1, e2⟩ := at_ e (by simp)
    subst e2
    exact ⟨b, c, e1, a⟩
/-- the context of a def's body -/
abbrev BX (P : Program) (w : World) (K : PySem.W.Frag) (mg : Str → Option Value) (base : Heap) (N : List Str) (qual : Str) (st : Stmt) (f : Addr) (cdv : Value) (A : Around) (outer : List Env) (s : Shared) (H : Hp) (E : XK) : Cx :=
  (cxOf CX0 P w K mg base N qual (defScope st) f cdv A outer s H E).nox
theorem fn_ok {P : Program} {w : World} {K : PySem.W.Frag} {mg : Str → Option Value} {base : Heap} {x qual : Str} {st : Stmt} {f : Addr} {fd : FuncData} {N ps : List Str} {k : Nat} (F : Fun K x qual st f fd) (S : FnScope N ps (defScope st))
    (en : α → List Slot) (er : ρ → PyData) (g : α → M ρ) (Γ0 : α → List Slot) (hn : ∀ a, (en a).length = ps.length) (hΓ : ∀ a, Pz.entry (en a) (N.length - ps.length) = Γ0 a)
    (body : ∀ (cdv : Value) (A : Around) (outer : List Env) (s : Shared) (H : Hp) (E : XK) (R : Res) (a : α), Room k (A.deeper (envOfC qual (defScope st) s.heap.objs.size f cdv)) → SJ (BX P w K mg base N qual st f cdv A outer s H E) R (Γ0 a) (defBody st) (fun r => .rt (er r)) (g a)) :
    FnOk P w K mg base CX0 (k + 1) f fd ps (SpM en er g) := by
  have hpl : ps.length ≤ N.length := by have := congrArg List.length S.pre; rw [List.length_take] at this; omega
  refine F.ok S (fun vs H Q E ⟨R, O, a, st, r, st', _, _, _, h, _⟩ => by rw [h.length, hn]) (fun cdv A outer s H vs Q E hr h => ?_)
  obtain ⟨R, O, a, u, r, u', hz, hd, ok, hl, e, q⟩ := h
  refine ⟨_, body cdv A outer s H E R a hr, O, H, fun _ => 0, u, r, u', ?_, ok, e, q⟩
  rw [← hΓ a]
  have := Rel.entry (N := N) hl (by rw [hn]; exact hpl) hz hd
  rw [hn] at this
  exact this
/-- f(..) -/
theorem e_call {k : Nat} {f : Addr} {fd : FuncData} {ps : List Str} {x : Str} {p : Pos} {e0 : Expr} {es : List Expr} {en : α → List Slot} {g : α → M ρ} {ma : M α} (F : FnOk X.prog X.w X.K X.mg X.base CX0 k f fd ps (SpM en er g)) (hr : Room k X.A) (hm : X.mg x = some (.ref f)) (hk : PySem.W.keepIn X.K (.ref f) = true)
    (hb : Binds X.K fd ps []) (ha : AJ X R Γ (e0 :: es) en ma) (hg : Gl X x := by rfl) (hdb : (x == ("__debug__" : Str)) = false := by decide) (he : starEach (e0 :: es) X.env = (false, eval e0 X.env) :: starEach es X.env := by rfl) (hpl : (backTo pos (starEach es X.env)).any (·.1) = false := by rfl) :
    EJ X R Γ (.Call (.Name x p) (e0 :: es) [] pos) er (bindM ma g) := by
  refine PE.weak (pe_call F hr hg hm hk hb .nil pass0 ha hdb he hpl) fun σ H Q ⟨O, H0, ow, st, z, st', rel, ok, e, q⟩ => ?_
  obtain ⟨a, s1, e1, e2⟩ := bind_some e
  refine ⟨O, H0, ow, st, a, s1, rel, ok, e1, fun vs H1 k1 o1 r1 => ?_⟩
  have rel1 := rel.grow k1 (okZ o1)
  refine ⟨R, avo O Γ ow, a, s1, z, st', fun x h => rel1.zavo h, fun x h => rel1.adom h, o1, by rw [List.append_nil]; exact r1, e2, fun v H' k2 o2 r2 => q v H' (k1.trans k2) o2 r2⟩

/-! ### several names at once -/
theorem q_par2 (i j : Nat) {x y : Str} {a b : Expr} {px py pt : Pos} {kt k2 pt2} {eb : β → PyData} {ma : M α} {mb : M β} (ha : EJ X R Γ a ea ma) (hb : EJ X R Γ b eb mb) (hc : X.calm = true) (hN : X.N.Nodup) (hi : X.N[i]? = some x := by rfl) (hj : X.N[j]? = some y := by rfl) (hij : i ≠ j := by decide)
    (hx : X.env.scope.names.lookup x = some .local := by rfl) (hy : X.env.scope.names.lookup y = some .local := by rfl)
    (hw : swappedStores [.Tuple [.Name x px, .Name y py] kt pt] (.Tuple [a, b] k2 pt2) X.env = pure (some [x, y]) := by rfl)
    (hs : swapsWithSole [.Tuple [.Name x px, .Name y py] kt pt] (.Tuple [a, b] k2 pt2) pos.line X.env = pure false := by rfl)
    (hs1 : starEach [a, b] X.env = (false, eval a X.env) :: starEach [b] X.env := by rfl) (hs2 : starEach [b] X.env = (false, eval b X.env) :: starEach [] X.env := by rfl) :
    QJ X R Γ (.Assign [.Tuple [.Name x px, .Name y py] kt pt] (.Tuple [a, b] k2 pt2) pos) (fun p : α × β => .nx ((Γ.set i (.fz (ea p.1))).set j (.fz (eb p.2)))) (bindM ma fun u => bindM mb fun v => pureM (u, v)) := by
  refine PS.weak (ps_par hc hN hi hj hij hx hy (pa_cons ha (pa_cons hb pa_nil hs2) hs1) hw hs) fun D σ H ⟨O, H0, ow, st, z, st', rel, ok, e, q⟩ => ?_
  obtain ⟨u, s1, e1, e2⟩ := bind_some e
  obtain ⟨v, s2, e3, e4⟩ := bind_some e2
  obtain ⟨rfl, rfl⟩ := pure_some e4
  refine ⟨O, H0, ow, st, u, s1, rel, ok, e1, fun vx H1 k1 o1 r1 => ?_⟩
  have rel1 := rel.grow k1 (okZ o1)
  refine ⟨O, H0, ow, s1, v, s2, rel1, o1, e3, fun vy H2 k2 o2 r2 => ?_⟩
  have rel2 := rel1.grow k2 (okZ o2)
  have less : ∀ a, avo O (Γ.set i (.fz (ea u))) ow a → avo O Γ ow a := fun a z => by
    rcases z with z | ⟨l, d, e5, e6⟩
    · exact .inl z
    · exact .inr ⟨l, d, set_noow _ _ e5, e6⟩
  refine ⟨vx, vy, rfl, q ow _ H2 ((rel2.setFz i (r1.keep (rel1.keepA k2))).setFz j (r2.less less)) o2 ⟨rel.keepA (k1.trans k2), fun l d e5 => .inl (.inr ⟨l, d, set_noow _ _ (set_noow _ _ e5), rfl⟩)⟩⟩
/-- a, b, .. = the items of a tuple -/
theorem q_asg {tg : Expr} {set : List Slot → α → List Slot} {is : List Nat} {enc : α → PyData} {m : M α} (he : EJ X R Γ e enc m) (hg : GJ X tg set is enc) (hset : ∀ Γ x (i : Nat) d, (set Γ x)[i]? = some (.ow d) → Γ[i]? = some (.ow d))
    (hs : swapsWithSole [tg] e pos.line X.env = pure false := by rfl) (hw : swappedStores [tg] e X.env = pure none := by rfl) (h1 : (assignEach [tg] X.env).map (·.2) = [assign tg X.env] := by rfl) :
    QJ X R Γ (.Assign [tg] e pos) (fun r => .nx (set Γ r)) m := by
  refine PS.weak (ps_asg he hg hs hw h1) fun D σ H ⟨O, H0, ow, st, z, st', rel, ok, e, q⟩ => ⟨O, H0, ow, st, z, st', rel, ok, e, fun v H' k o rp => ?_⟩
  refine ⟨R, O, H0, ow, Γ, z, rel.grow k (okZ o), rp, fun σ' rel' _ => q ow σ' H' rel' o ⟨rel.keepA k, fun l d e5 => .inl (.inr ⟨l, d, hset _ _ _ _ e5, rfl⟩)⟩⟩
end
end Pz

namespace Pz
open PySem PySem.Spec PyProof.Rows L2

/-! ### defs that are called where no repr is under way -/
structure FnG (P : Program) (w : World) (K : PySem.W.Frag) (mg : Str → Option Value) (base : Heap) (k : Nat) (f : Addr) (fd : FuncData) (ps : List Str) (sp : Sp) : Prop where
  many : ∀ vs H Q E, sp vs H Q E → vs.length = ps.length
  go : ∀ (A : Around) (above : List Env) (s : Shared) (H : Hp) (args : Args) (us : List Value) (vs : List V) (Q : VK) (E : XK), A.guards = some [] → Room k A → Env0 P w K mg base A above s H → BindsTo s fd args (ps.zip us) → Vals vs us →
    sp vs H Q E → codeAny (model P w) A (.call (.ref f) args) (CR CX0 above P w H s Q E) s
theorem FnG.mono {P : Program} {w : World} {K : PySem.W.Frag} {mg : Str → Option Value} {base : Heap} {j k : Nat} {f : Addr} {fd : FuncData} {ps : List Str} {sp : Sp} (F : FnG P w K mg base j f fd ps sp) (h : j ≤ k) : FnG P w K mg base k f fd ps sp :=
  ⟨F.many, fun A above s H args us vs Q E g r => F.go A above s H args us vs Q E g (r.mono h)⟩
theorem FnOk.toG {P : Program} {w : World} {K : PySem.W.Frag} {mg : Str → Option Value} {base : Heap} {k : Nat} {f : Addr} {fd : FuncData} {ps : List Str} {sp : Sp} (F : FnOk P w K mg base CX0 k f fd ps sp) : FnG P w K mg base k f fd ps sp :=
  ⟨F.len, fun A above s H args us vs Q E _ r e b v h => F.run A above s H args us vs Q E r e b v h⟩
section
variable {α β γ κ ρ ι : Type} {ea : α → PyData} {ec : γ → PyData} {er : ρ → PyData} {ei : ι → PyData} {X : Cx} {R : Res} {Γ Γ' : List Slot} {e c : Expr} {pos : Pos}
theorem guards_in {A : Around} {env : Env} : (A.deeper env).guards = A.guards := rfl
theorem g_def {P : Program} {w : World} {K : PySem.W.Frag} {mg : Str → Option Value} {base : Heap} {x qual : Str} {st : Stmt} {f : Addr} {fd : FuncData} {N ps : List Str} {k : Nat} (F : Fun K x qual st f fd) (S : FnScope N ps (defScope st)) {sp : Sp}
    (many : ∀ vs H Q E, sp vs H Q E → vs.length = ps.length)
    (body : ∀ (cdv : Value) (A : Around) (above : List Env) (s : Shared) (H : Hp) (vs : List V) (Q : VK) (E : XK), A.guards = some [] → Room k (A.deeper (envOfC qual (defScope st) s.heap.objs.size f cdv)) → sp vs H Q E →
      ∃ t, PSs (BX P w K mg base N qual st f cdv A above s H E) (defBody st) t ∧ t { nx := fun _ H' => Q .non H', rt := Q } (L2.start N vs) H) : FnG P w K mg base (k + 1) f fd ps sp := by
  obtain ⟨oc, od, kV, doc, pm, an, cdv, ct, osl, rfl, lk, hcd⟩ := F.ex
  refine ⟨many, fun A above s H args us vs Q E hG room env0 binds vals want => ?_⟩
  have cnt := many vs H Q E want
  have inK : K.In s.heap := env0.mod.kin.keeps (fun b o e => (env0.bs b o e).1)
  have noLim : s.heap.NoLimit := env0.mod.nolimit.keeps (fun b o e => (env0.bs b o e).1)
  have kinds : ∀ y ∈ ps.zip us, (defScope st).names.lookup y.1 = some .local ∨ ((defScope st).names.lookup y.1 = some .cell ∧ ((cellsFrom (s.heap.objs.size + 1) (defScope st).names []).lookup y.1).isSome = true) := by
    rintro ⟨n, v⟩ hy
    exact (S.par n (List.of_mem_zip hy).1).elim .inl fun q => .inr ⟨q, PySem.W.cellsFrom_some _ _ _ (.inl q)⟩
  refine codeAny_call_function room.depth (inK _ _ lk) rfl S.co S.gen rfl (PySem.W.codeRec_of inK hcd) (binds _ _ _ _ (wpAny_newFunctionEnv_cells S.kind kinds fun env he s1 begun => ?_))
  subst he
  refine ⟨noLim.keeps begun.toInCall.keep, codeAny_func ?_⟩
  obtain ⟨t, ht, reading⟩ := body cdv A above s H vs Q E hG (room.deeper _) want
  have inv0 : Inv (cxOf CX0 P w K mg base N qual (defScope st) f cdv A above s H E) [] (L2.start N vs) H s1 := inv_start S room.hd env0 cnt vals begun
  refine wpAny_mono (ht.nox.run [] s1 (L2.start N vs) H _ inv0 reading) (fun fl s' hs => ?_) (fun _ _ z => z)
  cases fl with
  | ret u => obtain ⟨v, σ', H', J, rv, q⟩ := hs; exact ⟨v, H', J.os, J.bare, J.base, J.hok, rv, q⟩
  | next => obtain ⟨σ', H', J, q⟩ := hs; exact ⟨V.non, H', J.os, J.bare, J.base, J.hok, rfl, q⟩
  | brk => obtain ⟨_, _, _, q⟩ := hs; exact q.elim
  | cont => obtain ⟨_, _, _, q⟩ := hs; exact q.elim
theorem g_ok {P : Program} {w : World} {K : PySem.W.Frag} {mg : Str → Option Value} {base : Heap} {x qual : Str} {st : Stmt} {f : Addr} {fd : FuncData} {N ps : List Str} {k : Nat} (F : Fun K x qual st f fd) (S : FnScope N ps (defScope st))
    (en : α → List Slot) (er : ρ → PyData) (g : α → M ρ) (Γ0 : α → List Slot) (hn : ∀ a, (en a).length = ps.length) (hΓ : ∀ a, Pz.entry (en a) (N.length - ps.length) = Γ0 a)
    (body : ∀ (cdv : Value) (A : Around) (above : List Env) (s : Shared) (H : Hp) (E : XK) (R : Res) (a : α), A.guards = some [] → Room k (A.deeper (envOfC qual (defScope st) s.heap.objs.size f cdv)) → SJ (BX P w K mg base N qual st f cdv A above s H E) R (Γ0 a) (defBody st) (fun r => .rt (er r)) (g a)) :
    FnG P w K mg base (k + 1) f fd ps (SpM en er g) := by
  have hpl : ps.length ≤ N.length := by have := congrArg List.length S.pre; rw [List.length_take] at this; omega
  refine g_def F S (fun vs H Q E ⟨R, O, a, st, r, st', _, _, _, h, _⟩ => by rw [h.length, hn]) (fun cdv A above s H vs Q E hG hr h => ?_)
  obtain ⟨R, O, a, u, r, u', hz, hd, ok, hl, e, q⟩ := h
  refine ⟨_, body cdv A above s H E R a hG hr, O, H, fun _ => 0, u, r, u', ?_, ok, e, q⟩
  rw [← hΓ a]
  have := Rel.entry (N := N) hl (by rw [hn]; exact hpl) hz hd
  rw [hn] at this
  exact this
/-- x(..), x a def -/
theorem pe_callG {k : Nat} {f : Addr} {fd : FuncData} {ps : List Str} {sp : Sp} {x : Str} {p : Pos} {e0 : Expr} {es : List Expr} {t : TA} (F : FnG X.prog X.w X.K X.mg X.base k f fd ps sp) (hG : X.A.guards = some []) (hr : Room k X.A) (hg : Gl X x) (hm : X.mg x = some (.ref f)) (hk : PySem.W.keepIn X.K (.ref f) = true)
    (hb : Binds X.K fd ps []) (ha : PA X (e0 :: es) t) (hdb : (x == ("__debug__" : Str)) = false) (he : starEach (e0 :: es) X.env = (false, eval e0 X.env) :: starEach es X.env) (hpl : (backTo pos (starEach es X.env)).any (·.1) = false) :
    PE X (.Call (.Name x p) (e0 :: es) [] pos) (fun σ H Q => t σ H fun vs H1 => sp vs H1 Q E0) := by
  constructor
  intro pins s σ H Q inv want
  refine wpAny_Call_Name_kw (ld_glob inv hg hm ?_ hdb)
  refine PySem.W.callWith_K (h₀ := X.base) inv.ok.mod.kin hk (wpAny_mono (ha.run pos pins s σ H _ inv want) (fun us s1 w1 => ?_) fun _ _ z => z) he hpl
  obtain ⟨vs, H1, inv1, vals, q⟩ := w1
  refine ⟨inv1.kIn, ?_⟩
  have cnt : (us ++ []).length = ps.length := by rw [List.append_nil, ← vals.length]; exact F.many _ _ _ _ q
  have bt := hb s1 us inv1.kIn cnt
  rw [List.append_nil] at bt
  refine wpAny_call (codeAny_mono (F.go X.A X.stack s1 H1 ⟨us, []⟩ us vs Q E0 hG hr inv1.env0 bt vals q) fun r s2 back => ?_)
  cases r with
  | error e => exact False.elim back
  | ok fl =>
    cases fl with
    | ret u => exact inv1.after back
    | next => exact False.elim back
    | brk => exact False.elim back
    | cont => exact False.elim back
theorem e_callG {k : Nat} {f : Addr} {fd : FuncData} {ps : List Str} {x : Str} {p : Pos} {e0 : Expr} {es : List Expr} {en : α → List Slot} {g : α → M ρ} {ma : M α} (F : FnG X.prog X.w X.K X.mg X.base k f fd ps (SpM en er g)) (hG : X.A.guards = some []) (hr : Room k X.A) (hm : X.mg x = some (.ref f)) (hk : PySem.W.keepIn X.K (.ref f) = true)
    (hb : Binds X.K fd ps []) (ha : AJ X R Γ (e0 :: es) en ma) (hg : Gl X x := by rfl) (hdb : (x == ("__debug__" : Str)) = false := by decide) (he : starEach (e0 :: es) X.env = (false, eval e0 X.env) :: starEach es X.env := by rfl) (hpl : (backTo pos (starEach es X.env)).any (·.1) = false := by rfl) :
    EJ X R Γ (.Call (.Name x p) (e0 :: es) [] pos) er (bindM ma g) := by
  refine PE.weak (pe_callG F hG hr hg hm hk hb ha hdb he hpl) fun σ H Q ⟨O, H0, ow, st, z, st', rel, ok, e, q⟩ => ?_
  obtain ⟨a, s1, e1, e2⟩ := bind_some e
  refine ⟨O, H0, ow, st, a, s1, rel, ok, e1, fun vs H1 k1 o1 r1 => ?_⟩
  have rel1 := rel.grow k1 (okZ o1)
  exact ⟨R, avo O Γ ow, a, s1, z, st', fun x h => rel1.zavo h, fun x h => rel1.adom h, o1, r1, e2, fun v H' k2 o2 r2 => q v H' (k1.trans k2) o2 r2⟩
end

/-! ### the law's own call -/
/-- what the law's def promises: True, whatever the script -/
def SpLaw (K : PySem.W.Frag) : Sp := fun vs H Q _ => ∃ (a : Addr) (ns : List Int), vs = [.ref a] ∧ SqL K H a (ns.map V.int) ∧ ns.length ≤ 63 ∧ Only H ∧ ∀ H', Q (.bl true) H'
theorem law_goes {P : Program} {w : World} {K : PySem.W.Frag} {mg mb : Str → Option Value} {k : Nat} {fa a : Addr} {fd : FuncData} {x : Str} {s1 : Shared} {vs : List Value} {ns : List Int} (KX : K.In s1.heap) (gl : s1.heap.Ns mainGlobals mg) (bl : s1.heap.Ns builtinsNs mb)
    (boot : ∀ x : Str, x ≠ "__name__" → mb x = bootBuiltins x) (noLim : s1.heap.NoLimit) (gens : s1.gens = #[]) (ha : s1.heap.get? a = some { cls := .type "list", data := .seq vs.toArray }) (areInts : IntsAre vs ns) (few : ns.length ≤ 63) (hr : Room k callerA)
    (F : ∀ base : Heap, K.In base → base.Ns mainGlobals mg → FnG P w K mg base k fa fd [x] (SpLaw K)) (bind : ∀ (s : Shared) (u : Value), BindsTo s fd ⟨[u], []⟩ [(x, u)]) :
    codeAny (model P w) callerA (.call (.ref fa) ⟨[.ref a], []⟩) (fun r s' => r = .ok (.ret (.bool true)) ∧ OldK s1.heap s'.heap ∧ s'.os = s1.os ∧ AllBare s'.gens) s1 := by
  have vi := vals_ints areInts
  have small : ns.length ≤ sizeLine := Nat.le_trans few (by decide)
  have main : ∀ H : Hp, Only H → SqL K H a (ns.map V.int) → HOk P w H s1.heap → (∀ b, H b ≠ none → b = a) → (H a ≠ none → K.lookup a = none) →
      codeAny (model P w) callerA (.call (.ref fa) ⟨[.ref a], []⟩) (fun r s' => r = .ok (.ret (.bool true)) ∧ OldK s1.heap s'.heap ∧ s'.os = s1.os ∧ AllBare s'.gens) s1 := by
    intro H only sq hok just inKey
    have untouched : ∀ {b : Addr} {o : Obj} {es : Array DictEntry} {ep : Nat}, s1.heap.get? b = some o → o.data = .dict es ep → H b = none := by
      intro b o es ep e d
      by_cases q : H b = none
      · exact q
      · have := just b q
        subst this
        rw [ha] at e
        cases e
        cases (show Data.seq vs.toArray _ = Data.dict es ep from d)
    have nsB : ∀ {b : Addr} {m : Str → Option Value}, s1.heap.Ns b m → (hidT s1.heap H).Ns b m := by
      rintro b m ⟨o, es, ep, e, d, r⟩
      exact ⟨o, es, ep, hidT_get e (untouched e d), d, r⟩
    have inB : K.In (hidT s1.heap H) := by
      intro b o e
      refine hidT_get (KX b o e) ?_
      by_cases q : H b = none
      · exact q
      · have := just b q
        subst this
        rw [inKey q] at e
        cases e
    have md : Mod K mg (hidT s1.heap H) := ⟨inB, nsB gl, ⟨mb, nsB bl, boot⟩, noLim.elim fun mc h => ⟨mc, nsB h.1, h.2⟩⟩
    have start0 : Env0 P w K mg (hidT s1.heap H) callerA [] s1 H := ⟨rfl, md, fun b o e => of_hidT e, Nat.le_of_eq (hidT_size _ _), trivial, fun b hb => (nomatch (show b ∈ ([] : List Addr) from hb)), hok, .of_eq gens⟩
    refine codeAny_mono ((F _ inB (nsB gl)).go callerA [] s1 H ⟨[.ref a], []⟩ [.ref a] [.ref a] (fun v _ => v = .bl true) E0 rfl hr start0 (bind s1 (.ref a)) (.cons rfl .nil) ⟨a, _, rfl, sq, few, only, fun _ => rfl⟩) fun r s' back => ?_
    cases r with
    | error e => exact False.elim back
    | ok fl =>
      cases fl with
      | next => exact False.elim back
      | brk => exact False.elim back
      | cont => exact False.elim back
      | ret u =>
        obtain ⟨v, H', os, bare, un, hok', rv, (rfl : v = .bl true)⟩ := back
        obtain rfl : u = Value.bool true := rv
        refine ⟨rfl, OldK.of_keep fun b o e => ?_, os, bare⟩
        by_cases q : H b = none
        · exact un.keep b o e q (fun z => nomatch (show b ∈ ([] : List Addr) from z)) (by simp)
        · rcases only b with z | ⟨_, _, z⟩
          · exact absurd z q
          · have first := (hok b _ z).1
            rw [e] at first
            cases first
            exact (hok' b _ (un.frzs b _ _ z)).1
  by_cases hk : K.lookup a = none
  · refine main (fun b => if b = a then some (.frz { cls := .type "list", data := .seq vs.toArray } (.lst (ns.map V.int))) else none) (fun b => ?_) (.inl (.inr ⟨{ cls := .type "list", data := .seq vs.toArray }, if_pos rfl⟩)) (fun b u z => ?_) (fun b z => ?_) (fun _ => hk)
    · by_cases hb : b = a
      · exact .inr ⟨_, _, if_pos hb⟩
      · exact .inl (if_neg hb)
    · by_cases hb : b = a
      · cases (if_pos hb).symm.trans z
        rw [hb]
        exact ⟨ha, by rw [List.length_map]; exact small, vs, _, vi, ha⟩
      · cases (if_neg hb).symm.trans z
    · exact Decidable.by_contra fun hb => z (if_neg hb)
  · obtain ⟨o, ho⟩ := Option.ne_none_iff_exists'.mp hk
    have e := KX a o ho
    rw [ha] at e
    cases e
    have lenV := areInts.length
    exact main (fun _ => none) (fun _ => .inl rfl) (.inr ⟨_, vs.toArray, _, ho, rfl, rfl, rfl, by rw [List.size_toArray, lenV]; exact small, by simpa using vi⟩) (fun b u z => nomatch (show (none : Option HO) = some u from z)) (fun b z => absurd rfl z) fun z => absurd rfl z
/-- the goal that k_head leaves, from the law's promise -/
theorem law_walk {l : PySem.W.OpenLaw} {k : Nat} {q : Program} {loose : List Str} {XP : (Str → Option Value) → Heap → Prop} {YP : World → Heap → Prop} {d : DefRec} {K : Params → PySem.W.Frag} {x : Str} (hn : l.most = some 63) (hdf : d.params.defaults = []) (hr : Room k callerA)
    (hY : ∀ (w : World) (h : Heap), YP w h → (K w.params).In h)
    (F : ∀ (w : World) (mg : Str → Option Value) (fa : Addr) (h : Heap), (K w.params).In h → h.Ns mainGlobals mg → mg d.name = some (.ref fa) →
      ∃ fd : FuncData, (∀ (s : Shared) (u : Value), BindsTo s fd ⟨[u], []⟩ [(x, u)]) ∧ ∀ base : Heap, (K w.params).In base → base.Ns mainGlobals mg → FnG l.prog w (K w.params) mg base k fa fd [x] (SpLaw (K w.params))) :
    PySem.W.WalkO q loose XP YP l.row.toRowW d [] (fun f vs => PySem.call f vs) :=
  Att.attach_call hn hdf fun w s0 s1 mg mb fa o pm cd doc a vs ns G Y _ _ _ hmg hobj hints hlen hg => by
    obtain ⟨fd, hb, hF⟩ := F w mg fa _ (hY w _ Y) G.T.g hmg
    exact law_goes (hY w _ Y) G.T.g G.T.b G.T.builtins G.T.nolimit hg hobj hints hlen hr hF hb
end Pz

namespace Pz
open PySem PySem.Spec PyProof.Rows L2

section
variable {α β γ δ ρ : Type} {ea : α → PyData} {eb : β → PyData} {ec : γ → PyData} {X : Cx} {R : Res} {Γ : List Slot} {e a b c : Expr} {pos : Pos}
/-! ### ints -/
theorem v_int2 {g : Int → Int → Int} : VOp (rI0 fun i j => .int (g i j)) eInt eInt eInt (fun x y => some (g x y)) := fun A H x y vx vy Q z ad r1 r2 e q => by
  cases r1; cases r2; cases e
  exact ⟨_, _, rfl, rfl, q _ H (Same.refl H) (.int _)⟩
theorem v_cmp2 {g : Int → Int → Bool} : VOp (rI0 fun i j => .bl (g i j)) eInt eInt eBool (fun x y => some (g x y)) := fun A H x y vx vy Q z ad r1 r2 e q => by
  cases r1; cases r2; cases e
  exact ⟨_, _, rfl, rfl, q _ H (Same.refl H) (.bl _)⟩
def mulO (x y : Int) : Option Int := if x.natAbs < 2 ^ 64 ∨ y.natAbs < 2 ^ 64 then some (x * y) else none
def divO (x y : Int) : Option Int := if y ≠ 0 ∧ y.natAbs < 1073741824 then some (x.fdiv y) else none
def modO (x y : Int) : Option Int := if y ≠ 0 then some (x.fmod y) else none
def powO (x y : Int) : Option Int := if 0 ≤ y ∧ y ≤ 1000000 ∧ x.natAbs < 2 ^ 64 then some (x ^ y.toNat) else none
def shlO (x y : Int) : Option Int := if 0 ≤ y ∧ y ≤ 1000000 ∧ x.natAbs < 2 ^ 64 then some (x * 2 ^ y.toNat) else none
theorem oif {α : Type} {p : Prop} [Decidable p] {a b : α} (h : (if p then some a else none) = some b) : p ∧ a = b := by
  by_cases hp : p
  · rw [if_pos hp] at h; exact ⟨hp, Option.some.inj h⟩
  · rw [if_neg hp] at h; cases h
theorem v_mul : VOp (rI CMul fun i j => .int (i * j)) eInt eInt eInt mulO := fun A H x y vx vy Q z ad r1 r2 e q => by
  cases r1; cases r2
  obtain ⟨h, rfl⟩ := oif e
  refine ⟨_, _, rfl, rfl, ?_, q _ H (Same.refl H) (.int _)⟩
  rcases h with h | h
  · left; omega
  · right; omega
theorem v_div : VOp (rI CDivN fun i j => .int (i.fdiv j)) eInt eInt eInt divO := fun A H x y vx vy Q z ad r1 r2 e q => by
  cases r1; cases r2
  obtain ⟨h, rfl⟩ := oif e
  exact ⟨_, _, rfl, rfl, h, q _ H (Same.refl H) (.int _)⟩
theorem v_mod : VOp (rI (fun _ j => j ≠ 0) fun i j => .int (i.fmod j)) eInt eInt eInt modO := fun A H x y vx vy Q z ad r1 r2 e q => by
  cases r1; cases r2
  obtain ⟨h, rfl⟩ := oif e
  exact ⟨_, _, rfl, rfl, h, q _ H (Same.refl H) (.int _)⟩
theorem v_pow : VOp (rI CPow fun i j => .int (i ^ j.toNat)) eInt eInt eInt powO := fun A H x y vx vy Q z ad r1 r2 e q => by
  cases r1; cases r2
  obtain ⟨h, rfl⟩ := oif e
  exact ⟨_, _, rfl, rfl, h, q _ H (Same.refl H) (.int _)⟩
theorem v_shl : VOp (rI CPow fun i j => .int (i * 2 ^ j.toNat)) eInt eInt eInt shlO := fun A H x y vx vy Q z ad r1 r2 e q => by
  cases r1; cases r2
  obtain ⟨h, rfl⟩ := oif e
  exact ⟨_, _, rfl, rfl, h, q _ H (Same.refl H) (.int _)⟩
theorem v_neg : V1 (rU fun i => .int (-i)) eInt eInt (fun x => some (-x)) := fun A H x vx Q z ad r1 e q => by
  cases r1; cases e
  exact ⟨_, rfl, q _ H (Same.refl H) (.int _)⟩
/-- the same of numbers, texts, truth values -/
theorem v_eqS [DecidableEq α] (f : α → V) (hf : ∀ (A : Av) (H : Hp) x v, Rp A H v (ea x) → v = f x) (hs : ∀ x y, scal (f x) (f y) = true) (hi : ∀ x y, f x = f y → x = y) : VOp rEq ea ea eBool (fun x y => some (decide (x = y))) := fun A H x y vx vy Q z ad r1 r2 e q => by
  cases e
  have e1 := hf _ _ _ _ r1
  have e2 := hf _ _ _ _ r2
  subst e1 e2
  refine ⟨hs _ _, ?_⟩
  rw [show decide (f x = f y) = decide (x = y) from decide_eq_decide.mpr ⟨hi x y, fun z => by rw [z]⟩]
  exact q _ H (Same.refl H) (.bl _)
theorem v_neS [DecidableEq α] (f : α → V) (hf : ∀ (A : Av) (H : Hp) x v, Rp A H v (ea x) → v = f x) (hs : ∀ x y, scal (f x) (f y) = true) (hi : ∀ x y, f x = f y → x = y) : VOp rNe ea ea eBool (fun x y => some (!decide (x = y))) := fun A H x y vx vy Q z ad r1 r2 e q => by
  cases e
  have e1 := hf _ _ _ _ r1
  have e2 := hf _ _ _ _ r2
  subst e1 e2
  refine ⟨hs _ _, ?_⟩
  rw [show decide (f x = f y) = decide (x = y) from decide_eq_decide.mpr ⟨hi x y, fun z => by rw [z]⟩]
  exact q _ H (Same.refl H) (.bl _)
theorem v_eqI : VOp rEq eInt eInt eBool (fun x y => some (decide (x = y))) := v_eqS V.int (fun A H x v r => by cases r; rfl) (fun _ _ => rfl) fun x y h => by cases h; rfl
theorem v_neI : VOp rNe eInt eInt eBool (fun x y => some (!decide (x = y))) := v_neS V.int (fun A H x v r => by cases r; rfl) (fun _ _ => rfl) fun x y h => by cases h; rfl
theorem v_eqB : VOp rEq eBool eBool eBool (fun x y => some (decide (x = y))) := v_eqS V.bl (fun A H x v r => by cases r; rfl) (fun _ _ => rfl) fun x y h => by cases h; rfl
theorem v_neB : VOp rNe eBool eBool eBool (fun x y => some (!decide (x = y))) := v_neS V.bl (fun A H x v r => by cases r; rfl) (fun _ _ => rfl) fun x y h => by cases h; rfl
theorem v_eqT : VOp rEq eStr eStr eBool (fun x y => some (decide (x = y))) := v_eqS V.str (fun A H x v r => by cases r; rfl) (fun _ _ => rfl) fun x y h => by cases h; rfl
theorem v_neT : VOp rNe eStr eStr eBool (fun x y => some (!decide (x = y))) := v_neS V.str (fun A H x v r => by cases r; rfl) (fun _ _ => rfl) fun x y h => by cases h; rfl

/-! ### data as a whole -/
mutual
def noLst : PyData → Bool
  | .list _ => false
  | .dict kvs => kvs.isEmpty
  | .tuple ds => noLsts ds
  | _ => true
def noLsts : List PyData → Bool
  | [] => true
  | d :: ds => noLst d && noLsts ds
end
mutual
theorem Rp.reads {pins : List (Addr × Obj)} {σ : L2.St} {H : Hp} {s : Shared} {A : Av} (I : Inv X pins σ H s) : ∀ (d : PyData) (v : V) (u : Value), Rp A H v d → RelV v u → ∃ as, Reads s.heap u d as ∧ (noLst d = true → sysModules ∉ as)
  | .none, _, _, h, r => by cases h; cases r; exact ⟨_, .none, by simp⟩
  | .bool b, _, _, h, r => by cases h; cases r; exact ⟨_, .bool b, by simp⟩
  | .int i, _, _, h, r => by cases h; obtain ⟨t, rfl⟩ := r; exact ⟨_, .int i t, by simp⟩
  | .str x, _, _, h, r => by cases h; obtain ⟨t, rfl⟩ := r; exact ⟨_, .str x t, by simp⟩
  | .list ds, _, _, h, r => by
    cases h with
    | @lst a vs _ na ha hr =>
      cases r
      obtain ⟨_, its, n, rv, ho⟩ := I.hok _ _ ha
      obtain ⟨as, q1, q2⟩ := RpAll.reads I ds _ its hr rv
      exact ⟨_, .list ho rfl rfl q1, by simp [noLst]⟩
  | .tuple ds, _, _, h, r => by
    cases h with
    | @tup a vs _ na ha hr =>
      cases r
      obtain ⟨_, its, rv, o, ho, hc, n, hd⟩ := I.hok _ _ ha
      obtain ⟨as, q1, q2⟩ := RpAll.reads I ds _ its hr rv
      exact ⟨_, .tuple ho hc hd q1, by simpa [noLst] using q2⟩
  | .dict _, _, _, h, r => by
    cases h with
    | @dic a na ha =>
      cases r
      obtain ⟨_, hs, vs, kv, o, es, ep, ho, hx, hd, he, hp, _⟩ := I.hok _ _ ha
      cases kv
      have e0 : es.toList = [] := by
        cases h0 : es.toList with
        | nil => rfl
        | cons a r => rw [h0] at hp; cases hp
      refine ⟨_, .dict (kvs := []) ho hx.1 hd (by rw [e0]; exact .nil) (by rw [e0]; exact .nil), fun _ z => ?_⟩
      have : sysModules = a := by simpa using z
      rw [← this] at hs
      simp at hs
theorem RpAll.reads {pins : List (Addr × Obj)} {σ : L2.St} {H : Hp} {s : Shared} {A : Av} (I : Inv X pins σ H s) : ∀ (ds : List PyData) (vs : List V) (us : List Value), RpAll A H vs ds → Vals vs us → ∃ as, ReadsAll s.heap us ds as ∧ (noLsts ds = true → sysModules ∉ as)
  | [], _, _, h, r => by cases h; cases r; exact ⟨_, .nil, by simp⟩
  | d :: ds, _, _, h, r => by
    cases h with
    | cons h1 h2 =>
      cases r with
      | cons r1 r2 =>
        obtain ⟨as, q1, n1⟩ := Rp.reads I d _ _ h1 r1
        obtain ⟨bs, q2, n2⟩ := RpAll.reads I ds _ _ h2 r2
        refine ⟨_, .cons q1 q2, fun h => ?_⟩
        simp only [noLsts, Bool.and_eq_true] at h
        rw [List.mem_append]
        exact fun z => z.elim (n1 h.1) (n2 h.2)
end
/-- encodings whose data are equal just where the Lean values are -/
structure Dc (n : Nat) [DecidableEq α] (e : α → PyData) : Prop where
  plain : ∀ x, (e x).plain = true
  depth : ∀ x, (e x).depth ≤ n
  eqv : ∀ x y, PyData.eqv (e x) (e y) = decide (x = y)
theorem Dc.int {n : Nat} : Dc n eInt := ⟨fun _ => rfl, fun x => by simp [eInt, PyData.depth], fun x y => by simp [eInt, PyData.eqv]; exact Bool.beq_eq_decide_eq x y⟩
theorem Dc.bool {n : Nat} : Dc n eBool := ⟨fun _ => rfl, fun x => by simp [eBool, PyData.depth], fun x y => by simp [eBool, PyData.eqv]; exact Bool.beq_eq_decide_eq x y⟩
theorem Dc.str {n : Nat} : Dc n eStr := ⟨fun _ => rfl, fun x => by simp [eStr, PyData.depth], fun x y => by simp [eStr, PyData.eqv]; exact Bool.beq_eq_decide_eq x y⟩
theorem Dc.mono {n m : Nat} [DecidableEq α] (h : Dc n ea) (k : n ≤ m) : Dc m ea := ⟨h.plain, fun x => Nat.le_trans (h.depth x) k, h.eqv⟩
theorem Dc.plainAll {n : Nat} [DecidableEq α] (h : Dc n ea) : ∀ xs : List α, PyData.plainAll (xs.map ea) = true
  | [] => rfl
  | x :: xs => by simp [PyData.plainAll, h.plain x, Dc.plainAll h xs]
theorem Dc.depthAll {n : Nat} [DecidableEq α] (h : Dc n ea) : ∀ xs : List α, PyData.depthAll (xs.map ea) ≤ n
  | [] => Nat.zero_le _
  | x :: xs => by
    have h1 := h.depth x
    have h2 := Dc.depthAll h xs
    simp only [List.map_cons, PyData.depthAll]
    omega
theorem Dc.eqvAll {n : Nat} [DecidableEq α] (h : Dc n ea) : ∀ xs ys : List α, PyData.eqvAll (xs.map ea) (ys.map ea) = decide (xs = ys)
  | [], [] => by simp [PyData.eqvAll]
  | [], _ :: _ => by simp [PyData.eqvAll]
  | _ :: _, [] => by simp [PyData.eqvAll]
  | x :: xs, y :: ys => by simp [PyData.eqvAll, h.eqv x y, Dc.eqvAll h xs ys, Bool.decide_and]
theorem Dc.tup {n : Nat} [DecidableEq α] (h : Dc n ea) : Dc (n + 1) (eT ea) := ⟨fun xs => by simp [eT, PyData.plain, h.plainAll xs], fun xs => by have := h.depthAll xs; simp only [eT, PyData.depth]; omega, fun xs ys => by simp [eT, PyData.eqv, h.eqvAll xs ys]⟩
theorem Dc.lst {n : Nat} [DecidableEq α] (h : Dc n ea) : Dc (n + 1) (eL ea) := ⟨fun xs => by simp [eL, PyData.plain, h.plainAll xs], fun xs => by have := h.depthAll xs; simp only [eL, PyData.depth]; omega, fun xs ys => by simp [eL, PyData.eqv, h.eqvAll xs ys]⟩
structure Dcs (n : Nat) [DecidableEq α] (f : α → List PyData) : Prop where
  plain : ∀ x, PyData.plainAll (f x) = true
  depth : ∀ x, PyData.depthAll (f x) ≤ n
  eqv : ∀ x y, PyData.eqvAll (f x) (f y) = decide (x = y)
theorem Dcs.nil {n : Nat} : Dcs n eU := ⟨fun _ => rfl, fun _ => Nat.zero_le _, fun x y => by simp [eU, PyData.eqvAll]⟩
theorem Dcs.cons {n : Nat} [DecidableEq α] [DecidableEq β] {f : β → List PyData} (h : Dc n ea) (k : Dcs n f) : Dcs n (eC ea f) := ⟨fun p => by simp [eC, PyData.plainAll, h.plain, k.plain], fun p => by have h1 := h.depth p.1; have h2 := k.depth p.2; simp only [eC, PyData.depthAll]; omega, fun p q => by
  obtain ⟨a, b⟩ := p
  obtain ⟨c, d⟩ := q
  simp [eC, PyData.eqvAll, h.eqv, k.eqv, Bool.decide_and]⟩
theorem Dc.pr {n : Nat} [DecidableEq α] {f : α → List PyData} (h : Dcs n f) : Dc (n + 1) (eP f) := ⟨fun p => by simp [eP, PyData.plain, h.plain], fun p => by have := h.depth p; simp only [eP, PyData.depth]; omega, fun p q => by simp [eP, PyData.eqv, h.eqv]⟩

/-- ==, != of data -/
def rEqP : R2 := fun x y H Q => ∃ A d e, Rp A H x d ∧ Rp A H y e ∧ d.plain = true ∧ e.plain = true ∧ d.depth ≤ 60 ∧ Q (.bl (PyData.eqv d e)) H
def rNeP : R2 := fun x y H Q => ∃ A d e, Rp A H x d ∧ Rp A H y e ∧ d.plain = true ∧ e.plain = true ∧ d.depth ≤ 60 ∧ Q (.bl (!PyData.eqv d e)) H
theorem op_eqP (hu : X.A.units + 64 < cLine) : OpR X (compareOp .Eq) rEqP := fun pins s σ H x y v u Q I rx ry h => by
  obtain ⟨A, d, e, hd, he, p1, p2, dp, q⟩ := h
  obtain ⟨as, r1, _⟩ := Rp.reads I d x v hd rx
  obtain ⟨bs, r2, _⟩ := Rp.reads I e y u he ry
  exact SeqAt.eq_plain r1 r2 p1 p2 (by omega) ⟨.bl _, H, I, rfl, q⟩
theorem op_neP (hu : X.A.units + 64 < cLine) : OpR X (compareOp .NotEq) rNeP := fun pins s σ H x y v u Q I rx ry h => by
  obtain ⟨A, d, e, hd, he, p1, p2, dp, q⟩ := h
  obtain ⟨as, r1, _⟩ := Rp.reads I d x v hd rx
  obtain ⟨bs, r2, _⟩ := Rp.reads I e y u he ry
  exact SeqAt.ne_plain r1 r2 p1 p2 (by omega) ⟨.bl _, H, I, rfl, q⟩
theorem v_eqP {n : Nat} [DecidableEq α] (h : Dc n ea) (hn : n ≤ 60 := by decide) : VOp rEqP ea ea eBool (fun x y => some (decide (x = y))) := fun A H x y vx vy Q z ad r1 r2 e q => by
  cases e
  refine ⟨A, _, _, r1, r2, h.plain _, h.plain _, Nat.le_trans (h.depth _) hn, ?_⟩
  rw [h.eqv]
  exact q _ H (Same.refl H) (.bl _)
theorem v_neP {n : Nat} [DecidableEq α] (h : Dc n ea) (hn : n ≤ 60 := by decide) : VOp rNeP ea ea eBool (fun x y => some (!decide (x = y))) := fun A H x y vx vy Q z ad r1 r2 e q => by
  cases e
  refine ⟨A, _, _, r1, r2, h.plain _, h.plain _, Nat.le_trans (h.depth _) hn, ?_⟩
  rw [h.eqv]
  exact q _ H (Same.refl H) (.bl _)
/-- .. of any data -/
def eqD (d e : PyData) : Option Bool := if d.plain = true ∧ e.plain = true ∧ d.depth ≤ 60 then some (PyData.eqv d e) else none
theorem v_eqD : VOp rEqP ea eb eBool (fun x y => eqD (ea x) (eb y)) := fun A H x y vx vy Q z ad r1 r2 e q => by
  obtain ⟨⟨h1, h2, h3⟩, rfl⟩ := oif e
  exact ⟨A, _, _, r1, r2, h1, h2, h3, q _ H (Same.refl H) (.bl _)⟩
theorem v_neD : VOp rNeP ea eb eBool (fun x y => (eqD (ea x) (eb y)).map (!·)) := fun A H x y vx vy Q z ad r1 r2 e q => by
  obtain ⟨b, e1, rfl⟩ := Option.map_eq_some_iff.mp e
  obtain ⟨⟨h1, h2, h3⟩, rfl⟩ := oif e1
  exact ⟨A, _, _, r1, r2, h1, h2, h3, q _ H (Same.refl H) (.bl _)⟩

/-! ### repr -/
def reprO (d : PyData) : Option Str := if d.showable = true ∧ (d.hasDict = true → noLst d = true) ∧ d.depth ≤ 60 ∧ d.shown.length ≤ sizeLine then some d.shown else none
def rRepr : List V → Hp → VK → Prop := fun xs H Q => ∃ A x d z, xs = [x] ∧ Rp A H x d ∧ reprO d = some z ∧ Q (.str z) H
theorem call_reprD (hu : X.A.units + 64 < cLine) (hg : X.A.guards = some []) : CallR X (.builtin "repr") rRepr := fun pins s σ H xs us Q I r h => by
  obtain ⟨A, x, d, z, rfl, hd, e, q⟩ := h
  obtain ⟨u, rfl, ru⟩ := vals1 r
  obtain ⟨⟨h1, h2, h3, h4⟩, rfl⟩ := oif e
  have fin : ∀ h' t tk, (∀ b o, s.heap.get? b = some o → h'.get? b = some o) → EP X pins σ Q (.str d.shown t) { s with heap := h', toks := tk } := fun h' t tk k => ⟨.str d.shown, H, I.kept k, ⟨_, rfl⟩, q⟩
  have fin0 : ∀ t tk, EP X pins σ Q (.str d.shown t) { s with toks := tk } := fun t tk => fin s.heap t tk fun _ _ e => e
  cases d with
  | none => cases hd; cases ru; exact PySem.P.repr_of_none (by have := fin0 s.toks (s.toks + 1); simp only [PyData.shown] at this; exact this)
  | bool b => cases hd; cases ru; exact PySem.P.repr_of_bool (by have := fin0 s.toks (s.toks + 1); simp only [PyData.shown] at this; exact this)
  | int i => cases hd; obtain ⟨t, rfl⟩ := ru; exact PySem.P.repr_of_int (by simpa [PyData.showable] using h1) (by have := fin0 s.toks (s.toks + 1); simp only [PyData.shown] at this; exact this)
  | str x => cases hd; obtain ⟨t, rfl⟩ := ru; exact PySem.P.repr_of_str (by have := fin0 s.toks (s.toks + 1); simp only [PyData.shown] at this; exact this) (by simpa only [PyData.shown] using h4)
  | list ds =>
    obtain ⟨as, rr, hs⟩ := Rp.reads I _ _ _ hd ru
    cases hd with
    | lst _ _ _ => cases ru; exact repr_of_reads' rr h1 (fun h => hs (h2 h)) hg (by omega) (fun _ _ e => e) fin h4
  | tuple ds =>
    obtain ⟨as, rr, hs⟩ := Rp.reads I _ _ _ hd ru
    cases hd with
    | tup _ _ _ => cases ru; exact repr_of_reads' rr h1 (fun h => hs (h2 h)) hg (by omega) (fun _ _ e => e) fin h4
  | dict kvs =>
    obtain ⟨as, rr, hs⟩ := Rp.reads I _ _ _ hd ru
    cases hd with
    | dic _ _ => cases ru; exact repr_of_reads' rr h1 (fun h => hs (h2 h)) hg (by omega) (fun _ _ e => e) fin h4
theorem v_repr : VN rRepr (fun x : α × Unit => [ea x.1]) eStr (fun x => reprO (ea x.1)) := fun A H x vs Q z ad r e q => by
  cases r with
  | cons r1 r2 => cases r2; exact ⟨A, _, _, z, rfl, r1, e, q _ H (Same.refl H) (.str _)⟩

/-! ### lists and tuples -/
theorem rix {K : PySem.W.Frag} {A : Av} {H : Hp} {xs : List α} {i : Int} {z : α} {vs : List V} (r : RpAll A H vs (xs.map ea)) (h : atI xs i = some z) : ∃ v, atI vs i = some v ∧ Rp A H v (ea z) := by
  unfold atI at h ⊢
  obtain ⟨j, e1, e2⟩ := Option.bind_eq_some_iff.mp h
  rw [show vs.length = xs.length by rw [r.length, List.length_map], e1]
  exact r.get (by rw [List.getElem?_map, e2]; rfl)
theorem v_ixL {K : PySem.W.Frag} : VOp (rIxL K) (eL ea) eInt ea (fun xs i => atI xs i) := fun A H x y vx vy Q z ad r1 r2 e q => by
  cases r2
  cases r1 with
  | lst na ha hr =>
    obtain ⟨v, h1, h2⟩ := rix (K := K) hr e
    exact ⟨_, _, _, v, rfl, rfl, SqL.of ha, h1, q v H (Same.refl H) h2⟩
theorem v_ixT {K : PySem.W.Frag} : VOp (rIxT K) (eT ea) eInt ea (fun xs i => atI xs i) := fun A H x y vx vy Q z ad r1 r2 e q => by
  cases r2
  cases r1 with
  | tup na ha hr =>
    obtain ⟨v, h1, h2⟩ := rix (K := K) hr e
    exact ⟨_, _, _, v, rfl, rfl, SqT.of ha, h1, q v H (Same.refl H) h2⟩
/-- a place in a tuple of a written length -/
theorem v_ixP {K : PySem.W.Frag} {f : α → List PyData} (g : α → γ) (j : Nat) (hj : ∀ x, (f x)[j]? = some (ec (g x))) : VOp (rIxT K) (eP f) eInt ec (fun x i => if i = (j : Int) then some (g x) else none) := fun A H x y vx vy Q z ad r1 r2 e q => by
  cases r2
  obtain ⟨rfl, rfl⟩ := oif e
  cases r1 with
  | tup na ha hr =>
    obtain ⟨v, h1, h2⟩ := hr.get (hj x)
    exact ⟨_, _, _, v, rfl, rfl, SqT.of ha, atI_nat h1, q v H (Same.refl H) h2⟩
def rLen1 (K : PySem.W.Frag) : List V → Hp → VK → Prop := fun xs H Q => ∃ p ys, xs = [.ref p] ∧ (SqL K H p ys ∨ SqT K H p ys) ∧ Q (.int ys.length) H
theorem v_lenL {K : PySem.W.Frag} : VN (rLen1 K) (fun x : List α × Unit => [eL ea x.1]) eInt (fun x => some (x.1.length : Int)) := fun A H x vs Q z ad r e q => by
  cases e
  cases r with
  | cons r1 r2 =>
    cases r2
    cases r1 with
    | lst na ha hr => exact ⟨_, _, rfl, .inl (SqL.of ha), by rw [hr.length, List.length_map]; exact q _ H (Same.refl H) (.int _)⟩
theorem v_lenT {K : PySem.W.Frag} : VN (rLen1 K) (fun x : List α × Unit => [eT ea x.1]) eInt (fun x => some (x.1.length : Int)) := fun A H x vs Q z ad r e q => by
  cases e
  cases r with
  | cons r1 r2 =>
    cases r2
    cases r1 with
    | tup na ha hr => exact ⟨_, _, rfl, .inr (SqT.of ha), by rw [hr.length, List.length_map]; exact q _ H (Same.refl H) (.int _)⟩
/-- list(xs), list(t), tuple(xs), tuple(t) -/
def rList1 (K : PySem.W.Frag) : List V → Hp → VK → Prop := fun xs H Q => ∃ p ys, xs = [.ref p] ∧ (SqL K H p ys ∨ SqT K H p ys) ∧ ∀ l, H l = none → Q (.ref l) (upd H l (.lst ys))
def rTup1 (K : PySem.W.Frag) : List V → Hp → VK → Prop := fun xs H Q => ∃ p ys, xs = [.ref p] ∧ ((SqL K H p ys ∧ ∀ l, H l = none → Q (.ref l) (upd H l (.tup ys))) ∨ (SqT K H p ys ∧ Q (.ref p) H))
theorem v_listL {K : PySem.W.Frag} : VNF (rList1 K) (fun x : List α × Unit => [eL ea x.1]) ea (fun x => some x.1) := fun A H x vs Q z ad r e q => by
  cases e
  cases r with
  | cons r1 r2 =>
    cases r2
    cases r1 with
    | lst na ha hr => exact ⟨_, _, rfl, .inl (SqL.of ha), fun l n => q l _ _ n (same_new n) upd_same (hr.at n (Keep.of_same (same_new n)))⟩
theorem v_listT {K : PySem.W.Frag} : VNF (rList1 K) (fun x : List α × Unit => [eT ea x.1]) ea (fun x => some x.1) := fun A H x vs Q z ad r e q => by
  cases e
  cases r with
  | cons r1 r2 =>
    cases r2
    cases r1 with
    | tup na ha hr => exact ⟨_, _, rfl, .inr (SqT.of ha), fun l n => q l _ _ n (same_new n) upd_same (hr.at n (Keep.of_same (same_new n)))⟩
theorem v_tupL {K : PySem.W.Frag} : VN (rTup1 K) (fun x : List α × Unit => [eL ea x.1]) (eT ea) (fun x => some x.1) := fun A H x vs Q z ad r e q => by
  cases e
  cases r with
  | cons r1 r2 =>
    cases r2
    cases r1 with
    | lst na ha hr => exact ⟨_, _, rfl, .inl ⟨SqL.of ha, fun l n => q _ _ (same_new n) (.tup (ad.fresh n) upd_same (hr.keep (Keep.of_same (same_new n))))⟩⟩
theorem v_tupT {K : PySem.W.Frag} : VN (rTup1 K) (fun x : List α × Unit => [eT ea x.1]) (eT ea) (fun x => some x.1) := fun A H x vs Q z ad r e q => by
  cases e
  cases r with
  | cons r1 r2 =>
    cases r2
    cases r1 with
    | tup na ha hr => exact ⟨_, _, rfl, .inr ⟨SqT.of ha, q _ H (Same.refl H) (.tup na ha hr)⟩⟩
/-- xs + ys, xs * k -/
def catO (xs ys : List α) : Option (List α) := if xs.length + ys.length ≤ sizeLine then some (xs ++ ys) else none
theorem v_catL : VOpF rCat (eL ea) (eL ea) ea catO := fun A H x y vx vy Q z ad r1 r2 e q => by
  obtain ⟨h, rfl⟩ := oif e
  cases r1 with
  | lst na ha hr =>
    cases r2 with
    | lst nb hb hr2 =>
      exact ⟨_, _, _, _, rfl, rfl, ha, hb, by rw [hr.length, hr2.length, List.length_map, List.length_map]; exact h, fun p n => q p _ _ n (same_new n) upd_same (by rw [List.map_append]; exact (hr.append hr2).at n (Keep.of_same (same_new n)))⟩
theorem v_catT {K : PySem.W.Frag} : VOp (rCatA K) (eT ea) (eT ea) (eT ea) catO := fun A H x y vx vy Q z ad r1 r2 e q => by
  obtain ⟨h, rfl⟩ := oif e
  cases r1 with
  | @tup a vs _ na ha hr =>
    cases r2 with
    | @tup b ws _ nb hb hr2 =>
      have ra := hr.append hr2
      rw [← List.map_append] at ra
      refine ⟨_, _, _, _, rfl, rfl, SqT.of ha, SqT.of hb, by rw [hr.length, hr2.length, List.length_map, List.length_map]; exact h, fun h0 => ?_, fun _ h0 => ?_, fun _ _ p n => ?_⟩
      · subst h0; exact q _ H (Same.refl H) (.tup nb hb ra)
      · subst h0; rw [List.append_nil] at ra; exact q _ H (Same.refl H) (.tup na ha ra)
      · exact q _ _ (same_new n) (.tup (ad.fresh n) upd_same (ra.keep (Keep.of_same (same_new n))))
def repO (xs : List α) (k : Int) : Option (List α) := if -(2 ^ 63) ≤ k ∧ k < 2 ^ 63 ∧ xs.length * k.toNat ≤ sizeLine then some (List.replicate k.toNat xs).flatten else none
end
end Pz

namespace Pz
open PySem PySem.Spec PyProof.Rows L2

section
variable {α β γ δ ρ : Type} {ea : α → PyData} {eb : β → PyData} {ec : γ → PyData} {X : Cx} {R : Res} {Γ : List Slot} {e a b c : Expr} {pos : Pos}
theorem RpAll.repeat {A : Av} {H : Hp} {vs : List V} {ds : List PyData} (r : RpAll A H vs ds) : ∀ k : Nat, RpAll A H (List.replicate k vs).flatten (List.replicate k ds).flatten
  | 0 => .nil
  | k + 1 => by
    rw [List.replicate_succ, List.replicate_succ, List.flatten_cons, List.flatten_cons]
    exact r.append (RpAll.repeat r k)
theorem map_rep {f : α → PyData} (xs : List α) : ∀ k : Nat, ((List.replicate k xs).flatten).map f = (List.replicate k (xs.map f)).flatten := fun k => by
  rw [List.map_flatten, List.map_replicate]
theorem v_repL : VOpF rRep (eL ea) eInt ea repO := fun A H x y vx vy Q z ad r1 r2 e q => by
  obtain ⟨⟨h1, h2, h3⟩, rfl⟩ := oif e
  cases r2
  cases r1 with
  | lst na ha hr =>
    exact ⟨_, _, _, rfl, rfl, ha, h1, h2, by rw [hr.length, List.length_map]; exact h3, fun p n => q p _ _ n (same_new n) upd_same (by rw [map_rep]; exact (hr.repeat _).at n (Keep.of_same (same_new n)))⟩
def repTO (xs : List α) (k : Int) : Option (List α) := if xs ≠ [] ∧ 2 ≤ k ∧ k ≤ 1000 ∧ xs.length ≤ 1000 then some (List.replicate k.toNat xs).flatten else none
theorem v_repT {K : PySem.W.Frag} : VOp (rRepT K) (eT ea) eInt (eT ea) repTO := fun A H x y vx vy Q z ad r1 r2 e q => by
  obtain ⟨⟨h0, h1, h2, h3⟩, rfl⟩ := oif e
  cases r2
  cases r1 with
  | @tup p0 vs _ na ha hr =>
    have hl := hr.length
    rw [List.length_map] at hl
    refine ⟨_, _, _, rfl, rfl, SqT.of ha, fun z => ?_, h1, h2, by omega, fun p n => q _ _ (same_new n) (.tup (ad.fresh n) upd_same (by rw [map_rep]; exact (hr.repeat _).keep (Keep.of_same (same_new n))))⟩
    subst z
    exact h0 (List.eq_nil_of_length_eq_zero hl.symm)

/-! ### slices -/
theorem cut_rp {A : Av} {H : Hp} {vs : List V} {ds : List PyData} (r : RpAll A H vs ds) (lo hi : Option Int) : RpAll A H (cutV vs lo hi) ((ds.drop (HT.sIx ds.length 0 lo)).take (HT.sIx ds.length ds.length hi - HT.sIx ds.length 0 lo)) := by
  unfold cutV
  rw [r.length]
  exact (r.drop _).take _
/-- xs[lo:hi] -/
def cutL (xs : List α) (lo hi : Option Int) : List α := (xs.drop (HT.sIx xs.length 0 lo)).take (HT.sIx xs.length xs.length hi - HT.sIx xs.length 0 lo)
theorem cut_map {f : α → β} (xs : List α) (lo hi : Option Int) : (cutL xs lo hi).map f = cutL (xs.map f) lo hi := by
  unfold cutL
  rw [List.map_take, List.map_drop, List.length_map]
/-- a part of a slice -/
def tP (R : Res) (Γ : List Slot) (m : M (Option Int)) : TO := fun σ H Q => ∃ O H0 ow st r st', Rel R O H0 ow Γ σ H ∧ okR R st H ∧ m st = some (r, st') ∧ ∀ H', Keep (Zr R) H H' → okR R st' H' → Q r H'
theorem PO.weak {e : Option Expr} {t t' : TO} (h : PO X e t) (w : ∀ σ H Q, t' σ H Q → t σ H Q) : PO X e t' := ⟨fun pins s σ H Q I q => h.run pins s σ H Q I (w σ H Q q)⟩
theorem p_none : PO X none (tP R Γ (pureM none)) := PO.weak po_none fun σ H Q ⟨O, H0, ow, st, r, st', rel, ok, e, q⟩ => by
  obtain ⟨rfl, rfl⟩ := pure_some e
  exact q H (Keep.refl H) ok
theorem p_some {m : M Int} (h : EJ X R Γ e eInt m) : PO X (some e) (tP R Γ (bindM m fun i => pureM (some i))) := PO.weak (po_some h) fun σ H Q ⟨O, H0, ow, st, r, st', rel, ok, e, q⟩ => by
  obtain ⟨x, s1, e1, e2⟩ := bind_some e
  obtain ⟨rfl, rfl⟩ := pure_some e2
  exact ⟨O, H0, ow, st, x, s1, rel, ok, e1, fun v H' k o r => by cases r; exact ⟨x, rfl, q H' k o⟩⟩
theorem f_slL {lo hi : Option Expr} {m : M (List α)} {ml mh : M (Option Int)} {p2 : Pos} (h : EJ X R Γ e (eL ea) m) (hl : PO X lo (tP R Γ ml)) (hh : PO X hi (tP R Γ mh)) :
    EF X R Γ (.Subscript e (.Slice lo hi none p2) pos) ea (bindM m fun xs => bindM ml fun l => bindM mh fun u => pureM (cutL xs l u)) := by
  refine PE.weak (pe_slice sl_list h hl hh) fun σ H Q ⟨O, H0, ow, st, z, st', rel, ok, e, q⟩ => ?_
  obtain ⟨xs, s1, e1, e2⟩ := bind_some e
  obtain ⟨l, s2, e3, e4⟩ := bind_some e2
  obtain ⟨u, s3, e5, e6⟩ := bind_some e4
  obtain ⟨rfl, rfl⟩ := pure_some e6
  refine ⟨O, H0, ow, st, xs, s1, rel, ok, e1, fun v H1 k1 o1 r1 => ?_⟩
  have rel1 := rel.grow k1 (okZ o1)
  refine ⟨O, H0, ow, s1, l, s2, rel1, o1, e3, fun H2 k2 o2 => ?_⟩
  have rel2 := rel1.grow k2 (okZ o2)
  refine ⟨O, H0, ow, s2, u, s3, rel2, o2, e5, fun H3 k3 o3 => ?_⟩
  have kA : Keep (avo O Γ ow) H1 H3 := (rel1.keepA k2).trans (rel2.keepA k3)
  have r3 := r1.keep kA
  cases r3 with
  | lst na ha hr =>
    refine ⟨_, _, rfl, SqL.of ha, fun p n => q p _ _ (noneK ((k1.trans k2).trans k3) o3 n) (((k1.trans k2).trans k3).trans (Keep.of_same (same_new n))) (o3.same (same_new n)) upd_same ?_⟩
    rw [cut_map]
    exact (cut_rp hr l u).at n (Keep.of_same (same_new n))
theorem e_slT {lo hi : Option Expr} {m : M (List α)} {ml mh : M (Option Int)} {p2 : Pos} (h : EJ X R Γ e (eT ea) m) (hl : PO X lo (tP R Γ ml)) (hh : PO X hi (tP R Γ mh)) :
    EJ X R Γ (.Subscript e (.Slice lo hi none p2) pos) (eT ea) (bindM m fun xs => bindM ml fun l => bindM mh fun u => pureM (cutL xs l u)) := by
  refine PE.weak (pe_slice sl_tupA h hl hh) fun σ H Q ⟨O, H0, ow, st, z, st', rel, ok, e, q⟩ => ?_
  obtain ⟨xs, s1, e1, e2⟩ := bind_some e
  obtain ⟨l, s2, e3, e4⟩ := bind_some e2
  obtain ⟨u, s3, e5, e6⟩ := bind_some e4
  obtain ⟨rfl, rfl⟩ := pure_some e6
  refine ⟨O, H0, ow, st, xs, s1, rel, ok, e1, fun v H1 k1 o1 r1 => ?_⟩
  have rel1 := rel.grow k1 (okZ o1)
  refine ⟨O, H0, ow, s1, l, s2, rel1, o1, e3, fun H2 k2 o2 => ?_⟩
  have rel2 := rel1.grow k2 (okZ o2)
  refine ⟨O, H0, ow, s2, u, s3, rel2, o2, e5, fun H3 k3 o3 => ?_⟩
  have kA : Keep (avo O Γ ow) H1 H3 := (rel1.keepA k2).trans (rel2.keepA k3)
  have r3 := r1.keep kA
  cases r3 with
  | @tup p0 vs _ na ha hr =>
    have hlen := hr.length
    rw [List.length_map] at hlen
    refine ⟨_, _, rfl, SqT.of ha, fun w => q _ _ ((k1.trans k2).trans k3) o3 (.tup na ha ?_), fun _ p n => q _ _ (((k1.trans k2).trans k3).trans (Keep.of_same (same_new n))) (o3.same (same_new n)) (.tup ((rel2.grow k3 (okZ o3)).ad.fresh n) upd_same ?_)⟩
    · have : cutL xs l u = xs := by
        rw [hlen] at w
        unfold cutL
        rw [w.1, w.2, List.drop_zero, Nat.sub_zero, List.take_length]
      rw [this]
      exact hr
    · rw [cut_map]
      exact (cut_rp hr l u).keep (Keep.of_same (same_new n))

/-! ### sorted -/
theorem each_rp {pins : List (Addr × Obj)} {σ : L2.St} {H : Hp} {s : Shared} {A : Av} (I : Inv X pins σ H s) : ∀ {bs : List α} {vs : List V} {us : List Value}, RpAll A H vs (bs.map ea) → Vals vs us → PySem.W.EachIs (fun v b => ∃ x, RelV x v ∧ Rp A H x (ea b)) us bs
  | [], _, _, r, q => by cases r; cases q; exact .nil
  | b :: bs, _, _, r, q => by
    cases r with
    | cons r1 r2 => cases q with | cons q1 q2 => exact .cons ⟨_, q1, r1⟩ (each_rp I r2 q2)
theorem each_reads {pins : List (Addr × Obj)} {σ : L2.St} {H : Hp} {s : Shared} {A : Av} (I : Inv X pins σ H s) : ∀ {bs : List α} {us : List Value}, PySem.W.EachIs (fun v b => ∃ x, RelV x v ∧ Rp A H x (ea b)) us bs → PySem.W.EachIs (fun v b => ∃ as, Reads s.heap v (ea b) as) us bs
  | _, _, .nil => .nil
  | _, _, .cons ⟨x, q1, r1⟩ t => .cons (let ⟨as, h, _⟩ := Rp.reads I _ _ _ r1 q1; ⟨as, h⟩) (each_reads I t)
theorem rp_each {H : Hp} {A : Av} : ∀ {bs : List α} {us : List Value}, PySem.W.EachIs (fun v b => ∃ x, RelV x v ∧ Rp A H x (ea b)) us bs → ∃ vs, Vals vs us ∧ RpAll A H vs (bs.map ea)
  | _, _, .nil => ⟨[], .nil, .nil⟩
  | _, _, .cons ⟨x, q1, r1⟩ t => let ⟨vs, h1, h2⟩ := rp_each t; ⟨x :: vs, .cons q1 h1, .cons r1 h2⟩
/-- which lists are sorted here: their data alike, tuples with an item at least (or none of them a tuple) -/
structure Srt (ok : α → Bool) (e : α → PyData) : Prop where
  alike : ∀ x y, PySem.W.alike (e x) (e y) = true
  kind : (∀ x, ok x = true → ∃ d r, e x = .tuple (d :: r)) ∨ ∀ x, e x ≠ .none ∧ ∀ ds, e x ≠ .tuple ds
  depth : ∀ x, (e x).depth ≤ 60
def srt (e : α → PyData) (xs : List α) : List α := xs.mergeSort (PySem.W.dataLe false e)
def srtO (ok : α → Bool) (e : α → PyData) (xs : List α) : Option (List α) := if xs.all ok = true then some (srt e xs) else none
def rSortD (ok : α → Bool) (ea : α → PyData) : List V → Hp → VK → Prop := fun xs H Q => ∃ A p vs bs, xs = [.ref p] ∧ H p = some (.lst vs) ∧ RpAll A H vs (bs.map ea) ∧ bs.all ok = true ∧
  ∀ q ws, H q = none → RpAll A H ws ((srt ea bs).map ea) → Q (.ref q) (upd H q (.lst ws))
theorem call_sortD {ok : α → Bool} (hs : Srt ok ea) (hu : X.A.units + 64 < cLine) : CallR X (.builtin "sorted") (rSortD ok ea) := fun pins s σ H xs us Q I r h => by
  obtain ⟨A, p, vs, bs, rfl, hp, hr, hok, q⟩ := h
  obtain ⟨u, rfl, ru⟩ := vals1 r
  cases ru
  obtain ⟨its, rv, pl, hz⟩ := I.list (SqL.of hp)
  have each := each_rp I hr rv
  refine PySem.W.sorted_data (enc := ea) (R := fun v b => ∃ x, RelV x v ∧ Rp A H x (ea b)) pl.isList each (each_reads I each) (PySem.W.AllAlike.of hs.alike) ?_ ?_ (fun b _ => by have := hs.depth b; omega) fun out hl eo => ?_
  · rcases hs.kind with h | h
    · refine .inl fun d hd => ?_
      obtain ⟨b, hb, rfl⟩ := List.mem_map.mp hd
      exact h b (List.all_eq_true.mp hok b hb)
    · exact PySem.W.Sortable.others h
  · have := hr.length; rw [List.length_map] at this; omega
  · obtain ⟨ws, h1, h2⟩ := rp_each eo
    obtain ⟨c, hc⟩ := sortedAll_at s.heap its out.toArray
    have fr : H (s.heap.objs.size + 1) = none := I.hok.fresh (Nat.le_succ _)
    refine ⟨.ref _, _, I.laid (o := .lst ws) (t' := s.toks) (h' := sortedAll s.heap its out.toArray) (fun b o e => sortedAll_old e) (Nat.le_succ _) ⟨?_, out, c, h1, hc⟩, rfl, q _ ws fr h2⟩
    have e1 := h1.length
    have e2 := hr.length
    rw [List.length_map] at e2
    omega
theorem v_sort {ok : α → Bool} : VNF (rSortD ok ea) (fun x : List α × Unit => [eL ea x.1]) ea (fun x => srtO ok ea x.1) := fun A H x vs Q z ad r e q => by
  obtain ⟨h, rfl⟩ := oif e
  cases r with
  | cons r1 r2 =>
    cases r2
    cases r1 with
    | lst na ha hr => exact ⟨A, _, _, _, rfl, ha, hr, h, fun p ws n r => q p ws _ n (same_new n) upd_same (r.at n (Keep.of_same (same_new n)))⟩
theorem alikeAll_of (h : ∀ x y, PySem.W.alike (ea x) (ea y) = true) : ∀ xs ys : List α, PySem.W.alikeAll (xs.map ea) (ys.map ea) = true
  | [], _ => by simp [PySem.W.alikeAll]
  | _ :: _, [] => by simp [PySem.W.alikeAll]
  | x :: xs, y :: ys => by simp [PySem.W.alikeAll, h x y, alikeAll_of h xs ys]
theorem depthAll_of {n : Nat} (h : ∀ x, (ea x).depth ≤ n) : ∀ xs : List α, PyData.depthAll (xs.map ea) ≤ n
  | [] => Nat.zero_le _
  | x :: xs => by
    have h1 := h x
    have h2 := depthAll_of h xs
    simp only [List.map_cons, PyData.depthAll]
    omega
/-- rows of ints -/
theorem Srt.rows : Srt (fun r : List Int => !r.isEmpty) (eT eInt) := ⟨fun x y => by
  simp only [eT, PySem.W.alike]
  exact alikeAll_of (fun x y => by simp [eInt, PySem.W.alike]) x y, .inl fun x h => by
    cases x with
    | nil => cases h
    | cons d r => exact ⟨_, _, rfl⟩, fun x => by
      have := depthAll_of (ea := eInt) (n := 0) (fun x => by simp [eInt, PyData.depth]) x
      simp only [eT, PyData.depth]; omega⟩
theorem Srt.ints : Srt (fun _ : Int => true) eInt := ⟨fun x y => by simp [eInt, PySem.W.alike], .inr fun x => ⟨by simp [eInt], by simp [eInt]⟩, fun x => by simp [eInt, PyData.depth]⟩

/-! ### all, any, sum, int, abs, max, min -/
theorem bools_rp {A : Av} {H : Hp} : ∀ {bs : List Bool} {vs : List V}, RpAll A H vs (bs.map eBool) → vs = bs.map V.bl
  | [], _, r => by cases r; rfl
  | b :: bs, _, r => by cases r with | cons r1 r2 => cases r1; rw [bools_rp r2]; rfl
theorem ints_rp {A : Av} {H : Hp} : ∀ {bs : List Int} {vs : List V}, RpAll A H vs (bs.map eInt) → vs = bs.map V.int
  | [], _, r => by cases r; rfl
  | b :: bs, _, r => by cases r with | cons r1 r2 => cases r1; rw [ints_rp r2]; rfl
theorem v_all {K : PySem.W.Frag} : VN (rAll K) (fun x : List Bool × Unit => [eL eBool x.1]) eBool (fun x => some (x.1.all id)) := fun A H x vs Q z ad r e q => by
  cases e
  cases r with
  | cons r1 r2 =>
    cases r2
    cases r1 with
    | lst na ha hr =>
      have := bools_rp hr
      subst this
      exact ⟨_, _, rfl, SqL.of ha, q _ H (Same.refl H) (.bl _)⟩
theorem v_any {K : PySem.W.Frag} : VN (rAny K) (fun x : List Bool × Unit => [eL eBool x.1]) eBool (fun x => some (x.1.any id)) := fun A H x vs Q z ad r e q => by
  cases e
  cases r with
  | cons r1 r2 =>
    cases r2
    cases r1 with
    | lst na ha hr =>
      have := bools_rp hr
      subst this
      exact ⟨_, _, rfl, SqL.of ha, q _ H (Same.refl H) (.bl _)⟩
theorem v_sumL {K : PySem.W.Frag} : VN (rSum K) (fun x : List Int × Unit => [eL eInt x.1]) eInt (fun x => some x.1.sum) := fun A H x vs Q z ad r e q => by
  cases e
  cases r with
  | cons r1 r2 =>
    cases r2
    cases r1 with
    | lst na ha hr =>
      have := ints_rp hr
      subst this
      exact ⟨_, _, rfl, SqL.of ha, q _ H (Same.refl H) (.int _)⟩
def rInt1 : List V → Hp → VK → Prop := fun xs H Q => (∃ i, xs = [.int i] ∧ Q (.int i) H) ∨ ∃ k, xs = [.bl k] ∧ Q (.int (if k then 1 else 0)) H
theorem v_intI : VN rInt1 (fun x : Int × Unit => [eInt x.1]) eInt (fun x => some x.1) := fun A H x vs Q z ad r e q => by
  cases e
  cases r with | cons r1 r2 => cases r2; cases r1; exact .inl ⟨_, rfl, q _ H (Same.refl H) (.int _)⟩
theorem v_intB : VN rInt1 (fun x : Bool × Unit => [eBool x.1]) eInt (fun x => some (if x.1 then 1 else 0)) := fun A H x vs Q z ad r e q => by
  cases e
  cases r with | cons r1 r2 => cases r2; cases r1; exact .inr ⟨_, rfl, q _ H (Same.refl H) (.int _)⟩
def rAbs1 : List V → Hp → VK → Prop := fun xs H Q => ∃ i, xs = [.int i] ∧ Q (.int (if i < 0 then -i else i)) H
theorem v_abs : VN rAbs1 (fun x : Int × Unit => [eInt x.1]) eInt (fun x => some (if x.1 < 0 then -x.1 else x.1)) := fun A H x vs Q z ad r e q => by
  cases e
  cases r with | cons r1 r2 => cases r2; cases r1; exact ⟨_, rfl, q _ H (Same.refl H) (.int _)⟩
def rMax2 : List V → Hp → VK → Prop := fun xs H Q => ∃ i j, xs = [.int i, .int j] ∧ Q (.int (if j > i then j else i)) H
def rMin2 : List V → Hp → VK → Prop := fun xs H Q => ∃ i j, xs = [.int i, .int j] ∧ Q (.int (if j < i then j else i)) H
theorem v_max2 : VN rMax2 (fun x : Int × Int × Unit => [eInt x.1, eInt x.2.1]) eInt (fun x => some (max x.1 x.2.1)) := fun A H x vs Q z ad r e q => by
  cases e
  cases r with
  | cons r1 r2 =>
    cases r2 with
    | cons r2 r3 =>
      cases r3; cases r1; cases r2
      refine ⟨_, _, rfl, ?_⟩
      rw [show (if x.2.1 > x.1 then x.2.1 else x.1) = max x.1 x.2.1 by rw [Int.max_def]; split <;> split <;> omega]
      exact q _ H (Same.refl H) (.int _)
theorem v_min2 : VN rMin2 (fun x : Int × Int × Unit => [eInt x.1, eInt x.2.1]) eInt (fun x => some (min x.1 x.2.1)) := fun A H x vs Q z ad r e q => by
  cases e
  cases r with
  | cons r1 r2 =>
    cases r2 with
    | cons r2 r3 =>
      cases r3; cases r1; cases r2
      refine ⟨_, _, rfl, ?_⟩
      rw [show (if x.2.1 < x.1 then x.2.1 else x.1) = min x.1 x.2.1 by rw [Int.min_def]; split <;> split <;> omega]
      exact q _ H (Same.refl H) (.int _)

/-! ### is None, is True -/
/-- an encoding that is never None -/
def NN (e : α → PyData) : Prop := ∀ x, e x ≠ .none
theorem NN.int : NN eInt := fun _ => by simp [eInt]
theorem NN.tup : NN (eT ea) := fun _ => by simp [eT]
theorem NN.lst : NN (eL ea) := fun _ => by simp [eL]
theorem NN.pr {f : α → List PyData} : NN (eP f) := fun _ => by simp [eP]
theorem rp_non {A : Av} {H : Hp} {v : V} {d : PyData} (r : Rp A H v d) : v = .non ↔ d = .none := by cases r <;> simp
theorem v_isN (h : NN ea) : VOp (fun x y H Q => y = .non ∧ Q (.bl (decide (x = .non))) H) (eO ea) eNon eBool (fun x _ => some x.isNone) := fun A H x y vx vy Q z ad r1 r2 e q => by
  cases e
  cases r2
  refine ⟨rfl, ?_⟩
  have : decide (vx = .non) = x.isNone := by
    have := rp_non r1
    cases x with
    | none => simp [this, eO]
    | some a => simp [this, eO, h a]
  rw [this]
  exact q _ H (Same.refl H) (.bl _)
theorem v_notN (h : NN ea) : VOp (fun x y H Q => y = .non ∧ Q (.bl (!decide (x = .non))) H) (eO ea) eNon eBool (fun x _ => some x.isSome) := fun A H x y vx vy Q z ad r1 r2 e q => by
  cases e
  cases r2
  refine ⟨rfl, ?_⟩
  have : (!decide (vx = .non)) = x.isSome := by
    have := rp_non r1
    cases x with
    | none => simp [this, eO]
    | some a => simp [this, eO, h a]
  rw [this]
  exact q _ H (Same.refl H) (.bl _)
end
end Pz

namespace Pz
open PySem PySem.Spec PyProof.Rows L2

section
variable {α β γ δ κ ρ ι : Type} {ea : α → PyData} {eb : β → PyData} {ec : γ → PyData} {er : ρ → PyData} {ei : ι → PyData} {X : Cx} {R : Res} {Γ Γ' : List Slot} {e a b c : Expr} {st : Stmt} {rest A B body : List Stmt} {pos : Pos} {out : κ → OutD}
/-! ### short names -/
theorem e_add {ma mb : M Int} (ha : EJ X R Γ a eInt ma) (hb : EJ X R Γ b eInt mb) : EJ X R Γ (.BinOp a .Add b pos) eInt (bindM ma fun x => bindM mb fun y => pureM (x + y)) := e_bin op_add v_int2 ha hb
theorem e_sub {ma mb : M Int} (ha : EJ X R Γ a eInt ma) (hb : EJ X R Γ b eInt mb) : EJ X R Γ (.BinOp a .Sub b pos) eInt (bindM ma fun x => bindM mb fun y => pureM (x - y)) := e_bin op_sub v_int2 ha hb
theorem e_mul {ma mb : M Int} (ha : EJ X R Γ a eInt ma) (hb : EJ X R Γ b eInt mb) : EJ X R Γ (.BinOp a .Mult b pos) eInt (bindM ma fun x => bindM mb fun y => optM (mulO x y)) := e_bin op_mul v_mul ha hb
theorem e_div {ma mb : M Int} (ha : EJ X R Γ a eInt ma) (hb : EJ X R Γ b eInt mb) : EJ X R Γ (.BinOp a .FloorDiv b pos) eInt (bindM ma fun x => bindM mb fun y => optM (divO x y)) := e_bin op_fdivN v_div ha hb
theorem e_mod {ma mb : M Int} (ha : EJ X R Γ a eInt ma) (hb : EJ X R Γ b eInt mb) : EJ X R Γ (.BinOp a .Mod b pos) eInt (bindM ma fun x => bindM mb fun y => optM (modO x y)) := e_bin op_modN v_mod ha hb
theorem e_pow {ma mb : M Int} (ha : EJ X R Γ a eInt ma) (hb : EJ X R Γ b eInt mb) : EJ X R Γ (.BinOp a .Pow b pos) eInt (bindM ma fun x => bindM mb fun y => optM (powO x y)) := e_bin op_pow v_pow ha hb
theorem e_shl {ma mb : M Int} (ha : EJ X R Γ a eInt ma) (hb : EJ X R Γ b eInt mb) : EJ X R Γ (.BinOp a .LShift b pos) eInt (bindM ma fun x => bindM mb fun y => optM (shlO x y)) := e_bin op_shl v_shl ha hb
theorem e_neg {ma : M Int} (ha : EJ X R Γ a eInt ma) : EJ X R Γ (.UnaryOp .USub a pos) eInt (bindM ma fun x => pureM (-x)) := e_un un_neg v_neg ha
theorem e_lt {ma mb : M Int} (ha : EJ X R Γ a eInt ma) (hb : EJ X R Γ b eInt mb) : EJ X R Γ (.Compare a [.Lt] [b] pos) eBool (bindM ma fun x => bindM mb fun y => pureM (decide (x < y))) := e_cmp op_lt v_cmp2 ha hb
theorem e_le {ma mb : M Int} (ha : EJ X R Γ a eInt ma) (hb : EJ X R Γ b eInt mb) : EJ X R Γ (.Compare a [.LtE] [b] pos) eBool (bindM ma fun x => bindM mb fun y => pureM (decide (x ≤ y))) := e_cmp op_le v_cmp2 ha hb
theorem e_gt {ma mb : M Int} (ha : EJ X R Γ a eInt ma) (hb : EJ X R Γ b eInt mb) : EJ X R Γ (.Compare a [.Gt] [b] pos) eBool (bindM ma fun x => bindM mb fun y => pureM (decide (y < x))) := e_cmp op_gt v_cmp2 ha hb
theorem e_ge {ma mb : M Int} (ha : EJ X R Γ a eInt ma) (hb : EJ X R Γ b eInt mb) : EJ X R Γ (.Compare a [.GtE] [b] pos) eBool (bindM ma fun x => bindM mb fun y => pureM (decide (y ≤ x))) := e_cmp op_ge v_cmp2 ha hb
theorem t_lt {ma mb : M Int} (ha : EJ X R Γ a eInt ma) (hb : EJ X R Γ b eInt mb) : TJ X R Γ (.Compare a [.Lt] [b] pos) (bindM ma fun x => bindM mb fun y => pureM (decide (x < y))) := t_cmp op_lt v_cmp2 ha hb
theorem t_le {ma mb : M Int} (ha : EJ X R Γ a eInt ma) (hb : EJ X R Γ b eInt mb) : TJ X R Γ (.Compare a [.LtE] [b] pos) (bindM ma fun x => bindM mb fun y => pureM (decide (x ≤ y))) := t_cmp op_le v_cmp2 ha hb
theorem t_gt {ma mb : M Int} (ha : EJ X R Γ a eInt ma) (hb : EJ X R Γ b eInt mb) : TJ X R Γ (.Compare a [.Gt] [b] pos) (bindM ma fun x => bindM mb fun y => pureM (decide (y < x))) := t_cmp op_gt v_cmp2 ha hb
theorem t_ge {ma mb : M Int} (ha : EJ X R Γ a eInt ma) (hb : EJ X R Γ b eInt mb) : TJ X R Γ (.Compare a [.GtE] [b] pos) (bindM ma fun x => bindM mb fun y => pureM (decide (y ≤ x))) := t_cmp op_ge v_cmp2 ha hb
theorem e_eqI {ma mb : M Int} (ha : EJ X R Γ a eInt ma) (hb : EJ X R Γ b eInt mb) : EJ X R Γ (.Compare a [.Eq] [b] pos) eBool (bindM ma fun x => bindM mb fun y => pureM (decide (x = y))) := e_cmp op_eq v_eqI ha hb
theorem e_neI {ma mb : M Int} (ha : EJ X R Γ a eInt ma) (hb : EJ X R Γ b eInt mb) : EJ X R Γ (.Compare a [.NotEq] [b] pos) eBool (bindM ma fun x => bindM mb fun y => pureM (!decide (x = y))) := e_cmp op_ne v_neI ha hb
theorem t_eqI {ma mb : M Int} (ha : EJ X R Γ a eInt ma) (hb : EJ X R Γ b eInt mb) : TJ X R Γ (.Compare a [.Eq] [b] pos) (bindM ma fun x => bindM mb fun y => pureM (decide (x = y))) := t_cmp op_eq v_eqI ha hb
theorem t_neI {ma mb : M Int} (ha : EJ X R Γ a eInt ma) (hb : EJ X R Γ b eInt mb) : TJ X R Γ (.Compare a [.NotEq] [b] pos) (bindM ma fun x => bindM mb fun y => pureM (!decide (x = y))) := t_cmp op_ne v_neI ha hb
theorem e_eqT {ma mb : M Str} (ha : EJ X R Γ a eStr ma) (hb : EJ X R Γ b eStr mb) : EJ X R Γ (.Compare a [.Eq] [b] pos) eBool (bindM ma fun x => bindM mb fun y => pureM (decide (x = y))) := e_cmp op_eq v_eqT ha hb
theorem e_neT {ma mb : M Str} (ha : EJ X R Γ a eStr ma) (hb : EJ X R Γ b eStr mb) : EJ X R Γ (.Compare a [.NotEq] [b] pos) eBool (bindM ma fun x => bindM mb fun y => pureM (!decide (x = y))) := e_cmp op_ne v_neT ha hb
theorem t_eqT {ma mb : M Str} (ha : EJ X R Γ a eStr ma) (hb : EJ X R Γ b eStr mb) : TJ X R Γ (.Compare a [.Eq] [b] pos) (bindM ma fun x => bindM mb fun y => pureM (decide (x = y))) := t_cmp op_eq v_eqT ha hb
theorem t_neT {ma mb : M Str} (ha : EJ X R Γ a eStr ma) (hb : EJ X R Γ b eStr mb) : TJ X R Γ (.Compare a [.NotEq] [b] pos) (bindM ma fun x => bindM mb fun y => pureM (!decide (x = y))) := t_cmp op_ne v_neT ha hb
theorem e_eqP {n k : Nat} [DecidableEq α] {ma mb : M α} (hr : Room k X.A) (h : Dc n ea) (ha : EJ X R Γ a ea ma) (hb : EJ X R Γ b ea mb) (hn : n ≤ 60 := by decide) : EJ X R Γ (.Compare a [.Eq] [b] pos) eBool (bindM ma fun x => bindM mb fun y => pureM (decide (x = y))) := e_cmp (op_eqP hr.units) (v_eqP h hn) ha hb
theorem e_neP {n k : Nat} [DecidableEq α] {ma mb : M α} (hr : Room k X.A) (h : Dc n ea) (ha : EJ X R Γ a ea ma) (hb : EJ X R Γ b ea mb) (hn : n ≤ 60 := by decide) : EJ X R Γ (.Compare a [.NotEq] [b] pos) eBool (bindM ma fun x => bindM mb fun y => pureM (!decide (x = y))) := e_cmp (op_neP hr.units) (v_neP h hn) ha hb
theorem t_eqP {n k : Nat} [DecidableEq α] {ma mb : M α} (hr : Room k X.A) (h : Dc n ea) (ha : EJ X R Γ a ea ma) (hb : EJ X R Γ b ea mb) (hn : n ≤ 60 := by decide) : TJ X R Γ (.Compare a [.Eq] [b] pos) (bindM ma fun x => bindM mb fun y => pureM (decide (x = y))) := t_cmp (op_eqP hr.units) (v_eqP h hn) ha hb
theorem t_neP {n k : Nat} [DecidableEq α] {ma mb : M α} (hr : Room k X.A) (h : Dc n ea) (ha : EJ X R Γ a ea ma) (hb : EJ X R Γ b ea mb) (hn : n ≤ 60 := by decide) : TJ X R Γ (.Compare a [.NotEq] [b] pos) (bindM ma fun x => bindM mb fun y => pureM (!decide (x = y))) := t_cmp (op_neP hr.units) (v_neP h hn) ha hb
theorem e_isN {ma : M (Option α)} {j p} (h : NN ea) (ha : EJ X R Γ a (eO ea) ma) : EJ X R Γ (.Compare a [.Is] [.Constant .none j p] pos) eBool (bindM ma fun x => pureM x.isNone) := e_cmp op_isN (v_isN h) ha e_non
theorem e_notN {ma : M (Option α)} {j p} (h : NN ea) (ha : EJ X R Γ a (eO ea) ma) : EJ X R Γ (.Compare a [.IsNot] [.Constant .none j p] pos) eBool (bindM ma fun x => pureM x.isSome) := e_cmp op_notN (v_notN h) ha e_non
theorem t_isN {ma : M (Option α)} {j p} (h : NN ea) (ha : EJ X R Γ a (eO ea) ma) : TJ X R Γ (.Compare a [.Is] [.Constant .none j p] pos) (bindM ma fun x => pureM x.isNone) := t_cmp op_isN (v_isN h) ha e_non
theorem t_notN {ma : M (Option α)} {j p} (h : NN ea) (ha : EJ X R Γ a (eO ea) ma) : TJ X R Γ (.Compare a [.IsNot] [.Constant .none j p] pos) (bindM ma fun x => pureM x.isSome) := t_cmp op_notN (v_notN h) ha e_non
theorem v_isB : VOp rIsB eBool eBool eBool (fun x y => some (decide (x = y))) := fun A H x y vx vy Q z ad r1 r2 e q => by
  cases r1; cases r2; cases e
  exact ⟨_, _, rfl, rfl, q _ H (Same.refl H) (.bl _)⟩
theorem v_notB : VOp rNotB eBool eBool eBool (fun x y => some (!decide (x = y))) := fun A H x y vx vy Q z ad r1 r2 e q => by
  cases r1; cases r2; cases e
  exact ⟨_, _, rfl, rfl, q _ H (Same.refl H) (.bl _)⟩
theorem e_isB {ma mb : M Bool} (ha : EJ X R Γ a eBool ma) (hb : EJ X R Γ b eBool mb) : EJ X R Γ (.Compare a [.Is] [b] pos) eBool (bindM ma fun x => bindM mb fun y => pureM (decide (x = y))) := e_cmp op_isBl v_isB ha hb
theorem e_notB {ma mb : M Bool} (ha : EJ X R Γ a eBool ma) (hb : EJ X R Γ b eBool mb) : EJ X R Γ (.Compare a [.IsNot] [b] pos) eBool (bindM ma fun x => bindM mb fun y => pureM (!decide (x = y))) := e_cmp op_notBl v_notB ha hb
theorem t_isB {ma mb : M Bool} (ha : EJ X R Γ a eBool ma) (hb : EJ X R Γ b eBool mb) : TJ X R Γ (.Compare a [.Is] [b] pos) (bindM ma fun x => bindM mb fun y => pureM (decide (x = y))) := t_cmp op_isBl v_isB ha hb
theorem t_notB {ma mb : M Bool} (ha : EJ X R Γ a eBool ma) (hb : EJ X R Γ b eBool mb) : TJ X R Γ (.Compare a [.IsNot] [b] pos) (bindM ma fun x => bindM mb fun y => pureM (!decide (x = y))) := t_cmp op_notBl v_notB ha hb
theorem e_ixL {ma : M (List α)} {mb : M Int} (ha : EJ X R Γ a (eL ea) ma) (hb : EJ X R Γ b eInt mb) (hs : PlainIx b := by intro _ _; rfl) : EJ X R Γ (.Subscript a b pos) ea (bindM ma fun x => bindM mb fun y => optM (atI x y)) := e_ix ix_list v_ixL ha hb hs
theorem e_ixT {ma : M (List α)} {mb : M Int} (ha : EJ X R Γ a (eT ea) ma) (hb : EJ X R Γ b eInt mb) (hs : PlainIx b := by intro _ _; rfl) : EJ X R Γ (.Subscript a b pos) ea (bindM ma fun x => bindM mb fun y => optM (atI x y)) := e_ix ix_tup v_ixT ha hb hs
/-- t[j], j written, t a tuple of a written length -/
theorem e_ixP {ma : M α} {f : α → List PyData} {k : Int} {j0 : Nat} {p : Pos} (g : α → γ) (j : Nat) (hj : ∀ x, (f x)[j]? = some (ec (g x)) := by intro _; rfl) (hk : k = (j : Int) := by rfl) (ha : EJ X R Γ a (eP f) ma) : EJ X R Γ (.Subscript a (.Constant (.int k) j0 p) pos) ec (bindM ma fun x => pureM (g x)) := by
  have h := e_ix (X := X) (R := R) (Γ := Γ) (pos := pos) ix_tup (v_ixP (K := X.K) (f := f) (ec := ec) g j hj) ha (e_int (i := k) (j := j0) (pos := p)) (by intro _ _; rfl)
  subst hk
  simpa using h
theorem e_len {x : Str} {p : Pos} {ma : M (List α)} (hm : X.mg x = none) (hv : bootBuiltins x = some (.builtin "len")) (ha : EJ X R Γ a (eL ea) ma) (hg : Gl X x := by rfl) (hn : x ≠ "__name__" := by decide) (hdb : (x == ("__debug__" : Str)) = false := by decide)
    (he : starEach [a] X.env = (false, eval a X.env) :: starEach [] X.env := by rfl) : EJ X R Γ (.Call (.Name x p) [a] [] pos) eInt (bindM ma fun xs => pureM (xs.length : Int)) := by
  have h := e_many (es := [a]) (fun y : List α × Unit => [eL ea y.1]) (pe_callB (pos := pos) (p := p) call_len_seq hg hm hv (a_cons ha a_nil he) hn hdb he rfl) v_lenL
  simpa using h
theorem e_lenT {x : Str} {p : Pos} {ma : M (List α)} (hm : X.mg x = none) (hv : bootBuiltins x = some (.builtin "len")) (ha : EJ X R Γ a (eT ea) ma) (hg : Gl X x := by rfl) (hn : x ≠ "__name__" := by decide) (hdb : (x == ("__debug__" : Str)) = false := by decide)
    (he : starEach [a] X.env = (false, eval a X.env) :: starEach [] X.env := by rfl) : EJ X R Γ (.Call (.Name x p) [a] [] pos) eInt (bindM ma fun xs => pureM (xs.length : Int)) := by
  have h := e_many (es := [a]) (fun y : List α × Unit => [eT ea y.1]) (pe_callB (pos := pos) (p := p) call_len_seq hg hm hv (a_cons ha a_nil he) hn hdb he rfl) v_lenT
  simpa using h
/-- a built-in of one argument -/
theorem e_b1 {x : Str} {p : Pos} {id : String} {r : List V → Hp → VK → Prop} {ma : M α} {f : α → Option γ} (hc : CallR X (.builtin id) r) (hvn : VN r (fun y : α × Unit => [ea y.1]) ec (fun y => f y.1)) (hm : X.mg x = none) (hv : bootBuiltins x = some (.builtin id)) (ha : EJ X R Γ a ea ma) (hg : Gl X x := by rfl) (hn : x ≠ "__name__" := by decide) (hdb : (x == ("__debug__" : Str)) = false := by decide)
    (he : starEach [a] X.env = (false, eval a X.env) :: starEach [] X.env := by rfl) : EJ X R Γ (.Call (.Name x p) [a] [] pos) ec (bindM ma fun y => optM (f y)) := by
  have h := e_many (es := [a]) (fun y : α × Unit => [ea y.1]) (pe_callB (pos := pos) (p := p) hc hg hm hv (a_cons ha a_nil he) hn hdb he rfl) hvn
  simpa using h
theorem f_b1 {x : Str} {p : Pos} {id : String} {r : List V → Hp → VK → Prop} {ma : M α} {f : α → Option (List γ)} (hc : CallR X (.builtin id) r) (hvn : VNF r (fun y : α × Unit => [ea y.1]) ec (fun y => f y.1)) (hm : X.mg x = none) (hv : bootBuiltins x = some (.builtin id)) (ha : EJ X R Γ a ea ma) (hg : Gl X x := by rfl) (hn : x ≠ "__name__" := by decide) (hdb : (x == ("__debug__" : Str)) = false := by decide)
    (he : starEach [a] X.env = (false, eval a X.env) :: starEach [] X.env := by rfl) : EF X R Γ (.Call (.Name x p) [a] [] pos) ec (bindM ma fun y => optM (f y)) := by
  have h := f_many (es := [a]) (fun y : α × Unit => [ea y.1]) (pe_callB (pos := pos) (p := p) hc hg hm hv (a_cons ha a_nil he) hn hdb he rfl) hvn
  simpa using h
theorem e_t1 {x : Str} {p : Pos} {T : String} {r : List V → Hp → VK → Prop} {ma : M α} {f : α → Option γ} (hc : CallR X (.type T) r) (hvn : VN r (fun y : α × Unit => [ea y.1]) ec (fun y => f y.1)) (hm : X.mg x = none) (hv : bootBuiltins x = some (.type T)) (ha : EJ X R Γ a ea ma) (hg : Gl X x := by rfl) (hn : x ≠ "__name__" := by decide) (hdb : (x == ("__debug__" : Str)) = false := by decide)
    (he : starEach [a] X.env = (false, eval a X.env) :: starEach [] X.env := by rfl) : EJ X R Γ (.Call (.Name x p) [a] [] pos) ec (bindM ma fun y => optM (f y)) := by
  have h := e_many (es := [a]) (fun y : α × Unit => [ea y.1]) (pe_callTy (pos := pos) (p := p) hc hg hm hv (a_cons ha a_nil he) hn hdb he rfl) hvn
  simpa using h
theorem f_t1 {x : Str} {p : Pos} {T : String} {r : List V → Hp → VK → Prop} {ma : M α} {f : α → Option (List γ)} (hc : CallR X (.type T) r) (hvn : VNF r (fun y : α × Unit => [ea y.1]) ec (fun y => f y.1)) (hm : X.mg x = none) (hv : bootBuiltins x = some (.type T)) (ha : EJ X R Γ a ea ma) (hg : Gl X x := by rfl) (hn : x ≠ "__name__" := by decide) (hdb : (x == ("__debug__" : Str)) = false := by decide)
    (he : starEach [a] X.env = (false, eval a X.env) :: starEach [] X.env := by rfl) : EF X R Γ (.Call (.Name x p) [a] [] pos) ec (bindM ma fun y => optM (f y)) := by
  have h := f_many (es := [a]) (fun y : α × Unit => [ea y.1]) (pe_callTy (pos := pos) (p := p) hc hg hm hv (a_cons ha a_nil he) hn hdb he rfl) hvn
  simpa using h
theorem e_b2 {x : Str} {p : Pos} {id : String} {r : List V → Hp → VK → Prop} {ma : M α} {mb : M β} {f : α → β → Option γ} (hc : CallR X (.builtin id) r) (hvn : VN r (fun y : α × β × Unit => [ea y.1, eb y.2.1]) ec (fun y => f y.1 y.2.1)) (hm : X.mg x = none) (hv : bootBuiltins x = some (.builtin id)) (ha : EJ X R Γ a ea ma) (hb : EJ X R Γ b eb mb) (hg : Gl X x := by rfl) (hn : x ≠ "__name__" := by decide) (hdb : (x == ("__debug__" : Str)) = false := by decide)
    (he : starEach [a, b] X.env = (false, eval a X.env) :: starEach [b] X.env := by rfl) (he2 : starEach [b] X.env = (false, eval b X.env) :: starEach [] X.env := by rfl) : EJ X R Γ (.Call (.Name x p) [a, b] [] pos) ec (bindM ma fun y => bindM mb fun z => optM (f y z)) := by
  have h := e_many (es := [a, b]) (fun y : α × β × Unit => [ea y.1, eb y.2.1]) (pe_callB (pos := pos) (p := p) hc hg hm hv (a_cons ha (a_cons hb a_nil he2) he) hn hdb he (by rw [he2]; rfl)) hvn
  simpa using h
theorem e_repr {x : Str} {p : Pos} {k : Nat} {ma : M α} (hr : Room k X.A) (hG : X.A.guards = some []) (hm : X.mg x = none) (hv : bootBuiltins x = some (.builtin "repr")) (ha : EJ X R Γ a ea ma) (hg : Gl X x := by rfl) (hn : x ≠ "__name__" := by decide) (hdb : (x == ("__debug__" : Str)) = false := by decide)
    (he : starEach [a] X.env = (false, eval a X.env) :: starEach [] X.env := by rfl) : EJ X R Γ (.Call (.Name x p) [a] [] pos) eStr (bindM ma fun y => optM (reprO (ea y))) := e_b1 (call_reprD hr.units hG) v_repr hm hv ha hg hn hdb he
theorem f_catL {ma mb : M (List α)} (ha : EJ X R Γ a (eL ea) ma) (hb : EJ X R Γ b (eL ea) mb) : EF X R Γ (.BinOp a .Add b pos) ea (bindM ma fun x => bindM mb fun y => optM (catO x y)) := f_bin op_cat v_catL ha hb
theorem e_catT {ma mb : M (List α)} (ha : EJ X R Γ a (eT ea) ma) (hb : EJ X R Γ b (eT ea) mb) : EJ X R Γ (.BinOp a .Add b pos) (eT ea) (bindM ma fun x => bindM mb fun y => optM (catO x y)) := e_bin op_catA v_catT ha hb
theorem f_repL {ma : M (List α)} {mb : M Int} (ha : EJ X R Γ a (eL ea) ma) (hb : EJ X R Γ b eInt mb) : EF X R Γ (.BinOp a .Mult b pos) ea (bindM ma fun x => bindM mb fun y => optM (repO x y)) := f_bin op_rep v_repL ha hb
theorem e_repT {ma : M (List α)} {mb : M Int} (ha : EJ X R Γ a (eT ea) ma) (hb : EJ X R Γ b eInt mb) : EJ X R Γ (.BinOp a .Mult b pos) (eT ea) (bindM ma fun x => bindM mb fun y => optM (repTO x y)) := e_bin op_repT v_repT ha hb

/-! ### displays of one kind of items -/
abbrev LJ (X : Cx) (R : Res) (Γ : List Slot) (es : List Expr) (enc : α → PyData) (m : M (List α)) : Prop := AJ X R Γ es (fun xs => (xs.map enc).map .fz) m
theorem l_nil : LJ X R Γ [] ea (pureM []) := by
  refine PA.weak pa_nil fun σ H Q ⟨O, H0, ow, st, z, st', rel, ok, e, q⟩ => ?_
  obtain ⟨rfl, rfl⟩ := pure_some e
  exact q [] H (Keep.refl H) ok .nil
theorem l_cons {es : List Expr} {ma : M α} {mb : M (List α)} (ha : EJ X R Γ a ea ma) (hb : LJ X R Γ es ea mb) (hs : starEach (a :: es) X.env = (false, eval a X.env) :: starEach es X.env := by rfl) :
    LJ X R Γ (a :: es) ea (bindM ma fun x => bindM mb fun y => pureM (x :: y)) := by
  refine PA.weak (pa_cons ha hb hs) fun σ H Q ⟨O, H0, ow, st, z, st', rel, ok, e, q⟩ => ?_
  obtain ⟨x, s1, e1, e'⟩ := bind_some e
  obtain ⟨y, s2, e2, e3⟩ := bind_some e'
  obtain ⟨rfl, rfl⟩ := pure_some e3
  refine ⟨O, H0, ow, st, x, s1, rel, ok, e1, fun vx H1 k1 o1 r1 => ?_⟩
  refine ⟨O, H0, ow, s1, y, s2, rel.grow k1 (okZ o1), o1, e2, fun vs H2 k2 o2 r2 => ?_⟩
  exact q _ H2 (k1.trans k2) o2 (.cons (r1.keep ((rel.grow k1 (okZ o1)).keepA k2)) r2)
/-- how many: said by the reading -/
def smallM (m : M (List α)) : M (List α) := bindM m fun xs => if xs.length ≤ sizeLine then pureM xs else failM
theorem smallM_some {m : M (List α)} {s t : Src} {z : List α} (h : smallM m s = some (z, t)) : m s = some (z, t) ∧ z.length ≤ sizeLine := by
  obtain ⟨x, u, e1, e2⟩ := bind_some h
  obtain ⟨hl, rfl, rfl⟩ := if_some e2
  exact ⟨e1, hl⟩
theorem f_list {es : List Expr} {m : M (List α)} (h : LJ X R Γ es ea m) : EF X R Γ (.List es pos) ea (smallM m) := by
  refine PE.weak (pe_lst h) fun σ H Q ⟨O, H0, ow, st, z, st', rel, ok, e, q⟩ => ?_
  obtain ⟨e, hz⟩ := smallM_some e
  refine ⟨O, H0, ow, st, z, st', rel, ok, e, fun vs H1 k1 o1 r1 => ?_⟩
  have r2 : RpAll _ _ _ _ := RpSs.dat (R := R) r1
  refine ⟨by rw [r2.length, List.length_map]; exact hz, fun p n => q p vs _ (noneK k1 o1 n) (keepS k1 (same_new n)) (o1.same (same_new n)) upd_same (r2.at n (Keep.of_same (same_new n)))⟩
theorem e_tupl {es : List Expr} {k : Nat} {m : M (List α)} (h : LJ X R Γ es ea m) : EJ X R Γ (.Tuple es k pos) (eT ea) (smallM m) := by
  refine PE.weak (pe_tup h) fun σ H Q ⟨O, H0, ow, st, z, st', rel, ok, e, q⟩ => ?_
  obtain ⟨e, hz⟩ := smallM_some e
  refine ⟨O, H0, ow, st, z, st', rel, ok, e, fun vs H1 k1 o1 r1 => ?_⟩
  have r2 : RpAll _ _ _ _ := RpSs.dat (R := R) r1
  refine ⟨by rw [r2.length, List.length_map]; exact hz, fun p n => q _ _ (keepS k1 (same_new n)) (o1.same (same_new n)) (.tup ((rel.grow k1 (okZ o1)).ad.fresh n) upd_same (r2.keep (Keep.of_same (same_new n))))⟩
/-- *t ahead of more -/
theorem l_starT {es : List Expr} {p : Pos} {ma mb : M (List α)} (ha : EJ X R Γ a (eT ea) ma) (hb : LJ X R Γ es ea mb) (hs : starEach (.Starred a p :: es) X.env = (true, eval a X.env) :: starEach es X.env := by rfl) :
    LJ X R Γ (.Starred a p :: es) ea (bindM ma fun x => bindM mb fun y => pureM (x ++ y)) := by
  refine PA.weak (StX.pa_star ha hb hs) fun σ H Q ⟨O, H0, ow, st, z, st', rel, ok, e, q⟩ => ?_
  obtain ⟨x, s1, e1, e'⟩ := bind_some e
  obtain ⟨y, s2, e2, e3⟩ := bind_some e'
  obtain ⟨rfl, rfl⟩ := pure_some e3
  refine ⟨O, H0, ow, st, x, s1, rel, ok, e1, fun vx H1 k1 o1 r1 => ?_⟩
  cases r1 with
  | tup na ha hr =>
    refine ⟨_, _, rfl, .inl (SqT.of ha), O, H0, ow, s1, y, s2, rel.grow k1 (okZ o1), o1, e2, fun vs H2 k2 o2 r2 => q _ H2 (k1.trans k2) o2 ?_⟩
    have hr2 := hr.keep ((rel.grow k1 (okZ o1)).keepA k2)
    have all := hr2.append (RpSs.dat (R := R) r2)
    rw [← List.map_append] at all
    have back : ∀ {vs : List V} {ds : List PyData}, RpAll (avo O Γ ow) H2 vs ds → RpSs R (avo O Γ ow) H2 vs (ds.map .fz) := by
      intro vs ds
      induction ds generalizing vs with
      | nil => intro h; cases h; exact .nil
      | cons d ds ih => intro h; cases h with | cons h1 h2 => exact .cons h1 (ih h2)
    exact back all

/-! ### statements, short -/
def caseO {ρ β κ : Type} (o : Out ρ β) (f : β → M κ) (g : ρ → M κ) : M κ := match o with
  | .nx b => f b
  | .rt r => g r
theorem s_ret0 {m : M ρ} (he : EJ X R Γ e er m) : SJ X R Γ (.Return (some e) pos :: rest) (fun r => .rt (er r)) m := by
  have := s_ret (rest := rest) (pos := pos) (out := fun r => .rt (er r)) (f := id) he
  simpa using this
theorem s_retO {Γb : β → List Slot} {m : M ρ} (he : EJ X R Γ e er m) : SJ X R Γ (.Return (some e) pos :: rest) (outO er Γb) (bindM m fun r => pureM (Out.rt r)) := s_ret Out.rt he
theorem s_step1 {Γ1 : β → List Slot} {m1 : M (Out ρ β)} {k : β → M ρ} (h1 : QJ X R Γ st (outO er Γ1) m1) (h2 : ∀ b, SJ X R (Γ1 b) rest (fun r => .rt (er r)) (k b)) :
    SJ X R Γ (st :: rest) (fun r => .rt (er r)) (bindM m1 fun o => caseO o k pureM) :=
  s_eq (s_stepO (f := id) h1 h2) (congrArg (bindM m1) (funext fun o => by cases o <;> rfl))
theorem s_step2 {Γ1 : β → List Slot} {Γb : δ → List Slot} {m1 : M (Out ρ β)} {k : β → M (Out ρ δ)} (h1 : QJ X R Γ st (outO er Γ1) m1) (h2 : ∀ b, SJ X R (Γ1 b) rest (outO er Γb) (k b)) :
    SJ X R Γ (st :: rest) (outO er Γb) (bindM m1 fun o => caseO o k fun r => pureM (Out.rt r)) :=
  s_eq (s_stepO (f := Out.rt) h1 h2) (congrArg (bindM m1) (funext fun o => by cases o <;> rfl))
theorem s_ifret2 {Γb : β → List Slot} {mc : M Bool} {mA : M ρ} {mR : M (Out ρ β)} (hc : TJ X R Γ c mc) (hA : SJ X R Γ A (fun r => .rt (er r)) mA) (hR : SJ X R Γ rest (outO er Γb) mR) :
    SJ X R Γ (.If c A [] pos :: rest) (outO er Γb) (bindM mc fun k => if k then bindM mA (fun r => pureM (Out.rt r)) else mR) := s_ifret Out.rt hc hA (fun r => ⟨_, rfl⟩) (fun _ => rfl) hR
theorem s_nilN {Γb : β → List Slot} (b : β) (h : Low Γ (Γb b)) : SJ X R Γ [] (fun b => .nx (Γb b)) (pureM b) := s_nil rfl h
theorem s_nilO {Γb : β → List Slot} (b : β) (h : Low Γ (Γb b)) : SJ X R Γ [] (outO er Γb) (pureM (Out.nx b)) := s_nil rfl h

/-! ### targets, short -/
def st1 (i : Nat) (enc : ι → PyData) (Γ : List Slot) (y : ι) : List Slot := Γ.set i (.fz (enc y))
def st2 (i : Nat) (ea : α → PyData) (j : Nat) (eb : β → PyData) (Γ : List Slot) (y : α × β × Unit) : List Slot := (Γ.set i (.fz (ea y.1))).set j (.fz (eb y.2.1))
def st3 (i : Nat) (ea : α → PyData) (j : Nat) (eb : β → PyData) (k : Nat) (ec : γ → PyData) (Γ : List Slot) (y : α × β × γ × Unit) : List Slot := ((Γ.set i (.fz (ea y.1))).set j (.fz (eb y.2.1))).set k (.fz (ec y.2.2.1))
theorem g1 (i : Nat) {x : Str} (enc : ι → PyData) (hN : X.N.Nodup) (hi : X.N[i]? = some x := by rfl) (hx : Loc X.env.scope x := by first | exact Or.inl rfl | exact Or.inr rfl)
    (hf : X.fn x = true ∨ X.env.scope.names.lookup x = some .local := by first | exact .inl rfl | exact .inr rfl) : GJ X (.Name x pos) (st1 i enc) [i] enc := g_name i enc hN hi hx hf
theorem noow1 {i : Nat} {enc : ι → PyData} : ∀ Γ x (j : Nat) d, (st1 i enc Γ x)[j]? = some (.ow d) → Γ[j]? = some (.ow d) := fun _ _ _ _ e => set_noow _ _ e
theorem sm1 {i : Nat} {enc : ι → PyData} : ∀ Γ x (j : Nat), j ∉ [i] → (st1 i enc Γ x)[j]? = Γ[j]? := fun _ _ _ h => List.getElem?_set_ne (fun z => h (by simp [z]))
theorem noow2 {i j : Nat} : ∀ Γ x (l : Nat) d, (st2 i ea j eb Γ x)[l]? = some (.ow d) → Γ[l]? = some (.ow d) := fun _ _ _ _ e => set_noow _ _ (set_noow _ _ e)
theorem sm2 {i j : Nat} : ∀ Γ x (l : Nat), l ∉ [i, j] → (st2 i ea j eb Γ x)[l]? = Γ[l]? := fun _ _ _ h => (List.getElem?_set_ne (fun z => h (by simp [z]))).trans (List.getElem?_set_ne (fun z => h (by simp [z])))
theorem noow3 {i j k : Nat} : ∀ Γ x (l : Nat) d, (st3 i ea j eb k ec Γ x)[l]? = some (.ow d) → Γ[l]? = some (.ow d) := fun _ _ _ _ e => set_noow _ _ (set_noow _ _ (set_noow _ _ e))
theorem sm3 {i j k : Nat} : ∀ Γ x (l : Nat), l ∉ [i, j, k] → (st3 i ea j eb k ec Γ x)[l]? = Γ[l]? := fun _ _ _ h => (List.getElem?_set_ne (fun z => h (by simp [z]))).trans ((List.getElem?_set_ne (fun z => h (by simp [z]))).trans (List.getElem?_set_ne (fun z => h (by simp [z]))))
theorem g2 (i j : Nat) {x y : Str} {p q : Pos} {k : Nat} (ea : α → PyData) (eb : β → PyData) (hc : X.calm = true) (hN : X.N.Nodup) (hi : X.N[i]? = some x := by rfl) (hj : X.N[j]? = some y := by rfl) (hx : Loc X.env.scope x := by first | exact Or.inl rfl | exact Or.inr rfl) (hy : Loc X.env.scope y := by first | exact Or.inl rfl | exact Or.inr rfl)
    (hf : X.fn x = true ∨ X.env.scope.names.lookup x = some .local := by first | exact .inl rfl | exact .inr rfl) (hf2 : X.fn y = true ∨ X.env.scope.names.lookup y = some .local := by first | exact .inl rfl | exact .inr rfl) :
    GJ X (.Tuple [.Name x p, .Name y q] k pos) (st2 i ea j eb) [i, j] (eP (eC ea (eC eb eU))) :=
  g_tup (n := 2) hc (gs_cons (g1 i ea hN hi hx hf) (gs_cons (g1 j eb hN hj hy hf2) gs_nil noow1) noow1)
theorem g3 (i j l : Nat) {x y z : Str} {p q r : Pos} {k : Nat} (ea : α → PyData) (eb : β → PyData) (ec : γ → PyData) (hc : X.calm = true) (hN : X.N.Nodup) (hi : X.N[i]? = some x := by rfl) (hj : X.N[j]? = some y := by rfl) (hl : X.N[l]? = some z := by rfl) (hx : Loc X.env.scope x := by first | exact Or.inl rfl | exact Or.inr rfl) (hy : Loc X.env.scope y := by first | exact Or.inl rfl | exact Or.inr rfl) (hz : Loc X.env.scope z := by first | exact Or.inl rfl | exact Or.inr rfl)
    (hf : X.fn x = true ∨ X.env.scope.names.lookup x = some .local := by first | exact .inl rfl | exact .inr rfl) (hf2 : X.fn y = true ∨ X.env.scope.names.lookup y = some .local := by first | exact .inl rfl | exact .inr rfl) (hf3 : X.fn z = true ∨ X.env.scope.names.lookup z = some .local := by first | exact .inl rfl | exact .inr rfl) :
    GJ X (.Tuple [.Name x p, .Name y q, .Name z r] k pos) (st3 i ea j eb l ec) [i, j, l] (eP (eC ea (eC eb (eC ec eU)))) :=
  g_tup (n := 3) hc (gs_cons (g1 i ea hN hi hx hf) (gs_cons (g1 j eb hN hj hy hf2) (gs_cons (g1 l ec hN hl hz hf3) gs_nil noow1) noow1) noow1)
/-- no own list at the places vs -/
theorem noOw {Γ : List Slot} {vs : List Nat} (h : (vs.all fun i => match Γ[i]? with | some (.ow _) => false | _ => true) = true) : ∀ i ∈ vs, ∀ d, Γ[i]? ≠ some (.ow d) := fun i hi d e => by
  have := List.all_eq_true.mp h i hi
  rw [e] at this
  cases this
end
end Pz

namespace Pz
open PySem PySem.Spec PyProof.Rows L2

section
variable {α β γ δ ζ κ ρ ι : Type} {ea : α → PyData} {eb : β → PyData} {ec : γ → PyData} {ed : δ → PyData} {ez : ζ → PyData} {er : ρ → PyData} {X : Cx} {R : Res} {Γ Γ' : List Slot} {a b c d z : Expr} {pos : Pos}
/-! ### calls of defs, by the number of their arguments -/
theorem e_c1 {k : Nat} {f : Addr} {fd : FuncData} {ps : List Str} {x : Str} {p : Pos} {g : α → M ρ} {mα : M α} (F : FnG X.prog X.w X.K X.mg X.base k f fd ps (SpM (fun p : α × Unit => [.fz (ea p.1)]) er (fun p : α × Unit => g p.1))) (hG : X.A.guards = some []) (hr : Room k X.A) (hm : X.mg x = some (.ref f)) (hk : PySem.W.keepIn X.K (.ref f) = true)
    (hB : Binds X.K fd ps []) (ha : EJ X R Γ a ea mα) (hg : Gl X x := by rfl) (hdb : (x == ("__debug__" : Str)) = false := by decide) (has : starEach [a] X.env = (false, eval a X.env) :: starEach [] X.env := by rfl) (hpl : (backTo pos (starEach [] X.env)).any (·.1) = false := by rfl) :
    EJ X R Γ (.Call (.Name x p) [a] [] pos) er (bindM mα fun v0 => g v0) := by
  have h := e_callG (pos := pos) (p := p) F hG hr hm hk hB (a_cons ha a_nil has) hg hdb has hpl
  simpa using h
theorem e_cs1 {k : Nat} {f : Addr} {fd : FuncData} {ps : List Str} {x : Str} {p : Pos} {y : Str} {q : Pos} (i : Nat) {g : α → M ρ} {mα : M α} (F : FnG X.prog X.w X.K X.mg X.base k f fd ps (SpM (fun p : α × Unit => [.src, .fz (ea p.1)]) er (fun p : α × Unit => g p.1))) (hG : X.A.guards = some []) (hr : Room k X.A) (hm : X.mg x = some (.ref f)) (hk : PySem.W.keepIn X.K (.ref f) = true)
    (hB : Binds X.K fd ps []) (ha : EJ X R Γ a ea mα) (hg : Gl X x := by rfl) (hdb : (x == ("__debug__" : Str)) = false := by decide) (has : starEach [a] X.env = (false, eval a X.env) :: starEach [] X.env := by rfl) (hΓ : Γ[i]? = some .src := by rfl) (hN : X.N[i]? = some y := by rfl) (hv : Vis X.env.scope y := by first | exact Or.inl rfl | exact Or.inr (Or.inl rfl) | exact Or.inr (Or.inr rfl)) (hyd : (y == ("__debug__" : Str)) = false := by decide) (hyc : (y == ("__classdict__" : Str)) = false := by decide) (hsrc : starEach (.Name y q :: [a]) X.env = (false, eval (.Name y q) X.env) :: starEach [a] X.env := by rfl) (hpl : (backTo pos (starEach [a] X.env)).any (·.1) = false := by rfl) :
    EJ X R Γ (.Call (.Name x p) [.Name y q, a] [] pos) er (bindM mα fun v0 => g v0) := by
  have h := e_callG (pos := pos) (p := p) F hG hr hm hk hB (a_src i (a_cons ha a_nil has) hΓ hN hv hyd hyc hsrc) hg hdb hsrc hpl
  simpa using h
theorem e_c2 {k : Nat} {f : Addr} {fd : FuncData} {ps : List Str} {x : Str} {p : Pos} {g : α → β → M ρ} {mα : M α} {mβ : M β} (F : FnG X.prog X.w X.K X.mg X.base k f fd ps (SpM (fun p : α × β × Unit => [.fz (ea p.1), .fz (eb p.2.1)]) er (fun p : α × β × Unit => g p.1 p.2.1))) (hG : X.A.guards = some []) (hr : Room k X.A) (hm : X.mg x = some (.ref f)) (hk : PySem.W.keepIn X.K (.ref f) = true)
    (hB : Binds X.K fd ps []) (ha : EJ X R Γ a ea mα) (hb : EJ X R Γ b eb mβ) (hg : Gl X x := by rfl) (hdb : (x == ("__debug__" : Str)) = false := by decide) (has : starEach [a, b] X.env = (false, eval a X.env) :: starEach [b] X.env := by rfl) (hbs : starEach [b] X.env = (false, eval b X.env) :: starEach [] X.env := by rfl) (hpl : (backTo pos (starEach [b] X.env)).any (·.1) = false := by rfl) :
    EJ X R Γ (.Call (.Name x p) [a, b] [] pos) er (bindM mα fun v0 => bindM mβ fun v1 => g v0 v1) := by
  have h := e_callG (pos := pos) (p := p) F hG hr hm hk hB (a_cons ha (a_cons hb a_nil hbs) has) hg hdb has hpl
  simpa using h
theorem e_cs2 {k : Nat} {f : Addr} {fd : FuncData} {ps : List Str} {x : Str} {p : Pos} {y : Str} {q : Pos} (i : Nat) {g : α → β → M ρ} {mα : M α} {mβ : M β} (F : FnG X.prog X.w X.K X.mg X.base k f fd ps (SpM (fun p : α × β × Unit => [.src, .fz (ea p.1), .fz (eb p.2.1)]) er (fun p : α × β × Unit => g p.1 p.2.1))) (hG : X.A.guards = some []) (hr : Room k X.A) (hm : X.mg x = some (.ref f)) (hk : PySem.W.keepIn X.K (.ref f) = true)
    (hB : Binds X.K fd ps []) (ha : EJ X R Γ a ea mα) (hb : EJ X R Γ b eb mβ) (hg : Gl X x := by rfl) (hdb : (x == ("__debug__" : Str)) = false := by decide) (has : starEach [a, b] X.env = (false, eval a X.env) :: starEach [b] X.env := by rfl) (hbs : starEach [b] X.env = (false, eval b X.env) :: starEach [] X.env := by rfl) (hΓ : Γ[i]? = some .src := by rfl) (hN : X.N[i]? = some y := by rfl) (hv : Vis X.env.scope y := by first | exact Or.inl rfl | exact Or.inr (Or.inl rfl) | exact Or.inr (Or.inr rfl)) (hyd : (y == ("__debug__" : Str)) = false := by decide) (hyc : (y == ("__classdict__" : Str)) = false := by decide) (hsrc : starEach (.Name y q :: [a, b]) X.env = (false, eval (.Name y q) X.env) :: starEach [a, b] X.env := by rfl) (hpl : (backTo pos (starEach [a, b] X.env)).any (·.1) = false := by rfl) :
    EJ X R Γ (.Call (.Name x p) [.Name y q, a, b] [] pos) er (bindM mα fun v0 => bindM mβ fun v1 => g v0 v1) := by
  have h := e_callG (pos := pos) (p := p) F hG hr hm hk hB (a_src i (a_cons ha (a_cons hb a_nil hbs) has) hΓ hN hv hyd hyc hsrc) hg hdb hsrc hpl
  simpa using h
theorem e_c3 {k : Nat} {f : Addr} {fd : FuncData} {ps : List Str} {x : Str} {p : Pos} {g : α → β → γ → M ρ} {mα : M α} {mβ : M β} {mγ : M γ} (F : FnG X.prog X.w X.K X.mg X.base k f fd ps (SpM (fun p : α × β × γ × Unit => [.fz (ea p.1), .fz (eb p.2.1), .fz (ec p.2.2.1)]) er (fun p : α × β × γ × Unit => g p.1 p.2.1 p.2.2.1))) (hG : X.A.guards = some []) (hr : Room k X.A) (hm : X.mg x = some (.ref f)) (hk : PySem.W.keepIn X.K (.ref f) = true)
    (hB : Binds X.K fd ps []) (ha : EJ X R Γ a ea mα) (hb : EJ X R Γ b eb mβ) (hc : EJ X R Γ c ec mγ) (hg : Gl X x := by rfl) (hdb : (x == ("__debug__" : Str)) = false := by decide) (has : starEach [a, b, c] X.env = (false, eval a X.env) :: starEach [b, c] X.env := by rfl) (hbs : starEach [b, c] X.env = (false, eval b X.env) :: starEach [c] X.env := by rfl) (hcs : starEach [c] X.env = (false, eval c X.env) :: starEach [] X.env := by rfl) (hpl : (backTo pos (starEach [b, c] X.env)).any (·.1) = false := by rfl) :
    EJ X R Γ (.Call (.Name x p) [a, b, c] [] pos) er (bindM mα fun v0 => bindM mβ fun v1 => bindM mγ fun v2 => g v0 v1 v2) := by
  have h := e_callG (pos := pos) (p := p) F hG hr hm hk hB (a_cons ha (a_cons hb (a_cons hc a_nil hcs) hbs) has) hg hdb has hpl
  simpa using h
theorem e_cs3 {k : Nat} {f : Addr} {fd : FuncData} {ps : List Str} {x : Str} {p : Pos} {y : Str} {q : Pos} (i : Nat) {g : α → β → γ → M ρ} {mα : M α} {mβ : M β} {mγ : M γ} (F : FnG X.prog X.w X.K X.mg X.base k f fd ps (SpM (fun p : α × β × γ × Unit => [.src, .fz (ea p.1), .fz (eb p.2.1), .fz (ec p.2.2.1)]) er (fun p : α × β × γ × Unit => g p.1 p.2.1 p.2.2.1))) (hG : X.A.guards = some []) (hr : Room k X.A) (hm : X.mg x = some (.ref f)) (hk : PySem.W.keepIn X.K (.ref f) = true)
    (hB : Binds X.K fd ps []) (ha : EJ X R Γ a ea mα) (hb : EJ X R Γ b eb mβ) (hc : EJ X R Γ c ec mγ) (hg : Gl X x := by rfl) (hdb : (x == ("__debug__" : Str)) = false := by decide) (has : starEach [a, b, c] X.env = (false, eval a X.env) :: starEach [b, c] X.env := by rfl) (hbs : starEach [b, c] X.env = (false, eval b X.env) :: starEach [c] X.env := by rfl) (hcs : starEach [c] X.env = (false, eval c X.env) :: starEach [] X.env := by rfl) (hΓ : Γ[i]? = some .src := by rfl) (hN : X.N[i]? = some y := by rfl) (hv : Vis X.env.scope y := by first | exact Or.inl rfl | exact Or.inr (Or.inl rfl) | exact Or.inr (Or.inr rfl)) (hyd : (y == ("__debug__" : Str)) = false := by decide) (hyc : (y == ("__classdict__" : Str)) = false := by decide) (hsrc : starEach (.Name y q :: [a, b, c]) X.env = (false, eval (.Name y q) X.env) :: starEach [a, b, c] X.env := by rfl) (hpl : (backTo pos (starEach [a, b, c] X.env)).any (·.1) = false := by rfl) :
    EJ X R Γ (.Call (.Name x p) [.Name y q, a, b, c] [] pos) er (bindM mα fun v0 => bindM mβ fun v1 => bindM mγ fun v2 => g v0 v1 v2) := by
  have h := e_callG (pos := pos) (p := p) F hG hr hm hk hB (a_src i (a_cons ha (a_cons hb (a_cons hc a_nil hcs) hbs) has) hΓ hN hv hyd hyc hsrc) hg hdb hsrc hpl
  simpa using h
theorem e_c4 {k : Nat} {f : Addr} {fd : FuncData} {ps : List Str} {x : Str} {p : Pos} {g : α → β → γ → δ → M ρ} {mα : M α} {mβ : M β} {mγ : M γ} {mδ : M δ} (F : FnG X.prog X.w X.K X.mg X.base k f fd ps (SpM (fun p : α × β × γ × δ × Unit => [.fz (ea p.1), .fz (eb p.2.1), .fz (ec p.2.2.1), .fz (ed p.2.2.2.1)]) er (fun p : α × β × γ × δ × Unit => g p.1 p.2.1 p.2.2.1 p.2.2.2.1))) (hG : X.A.guards = some []) (hr : Room k X.A) (hm : X.mg x = some (.ref f)) (hk : PySem.W.keepIn X.K (.ref f) = true)
    (hB : Binds X.K fd ps []) (ha : EJ X R Γ a ea mα) (hb : EJ X R Γ b eb mβ) (hc : EJ X R Γ c ec mγ) (hd : EJ X R Γ d ed mδ) (hg : Gl X x := by rfl) (hdb : (x == ("__debug__" : Str)) = false := by decide) (has : starEach [a, b, c, d] X.env = (false, eval a X.env) :: starEach [b, c, d] X.env := by rfl) (hbs : starEach [b, c, d] X.env = (false, eval b X.env) :: starEach [c, d] X.env := by rfl) (hcs : starEach [c, d] X.env = (false, eval c X.env) :: starEach [d] X.env := by rfl) (hds : starEach [d] X.env = (false, eval d X.env) :: starEach [] X.env := by rfl) (hpl : (backTo pos (starEach [b, c, d] X.env)).any (·.1) = false := by rfl) :
    EJ X R Γ (.Call (.Name x p) [a, b, c, d] [] pos) er (bindM mα fun v0 => bindM mβ fun v1 => bindM mγ fun v2 => bindM mδ fun v3 => g v0 v1 v2 v3) := by
  have h := e_callG (pos := pos) (p := p) F hG hr hm hk hB (a_cons ha (a_cons hb (a_cons hc (a_cons hd a_nil hds) hcs) hbs) has) hg hdb has hpl
  simpa using h
theorem e_cs4 {k : Nat} {f : Addr} {fd : FuncData} {ps : List Str} {x : Str} {p : Pos} {y : Str} {q : Pos} (i : Nat) {g : α → β → γ → δ → M ρ} {mα : M α} {mβ : M β} {mγ : M γ} {mδ : M δ} (F : FnG X.prog X.w X.K X.mg X.base k f fd ps (SpM (fun p : α × β × γ × δ × Unit => [.src, .fz (ea p.1), .fz (eb p.2.1), .fz (ec p.2.2.1), .fz (ed p.2.2.2.1)]) er (fun p : α × β × γ × δ × Unit => g p.1 p.2.1 p.2.2.1 p.2.2.2.1))) (hG : X.A.guards = some []) (hr : Room k X.A) (hm : X.mg x = some (.ref f)) (hk : PySem.W.keepIn X.K (.ref f) = true)
    (hB : Binds X.K fd ps []) (ha : EJ X R Γ a ea mα) (hb : EJ X R Γ b eb mβ) (hc : EJ X R Γ c ec mγ) (hd : EJ X R Γ d ed mδ) (hg : Gl X x := by rfl) (hdb : (x == ("__debug__" : Str)) = false := by decide) (has : starEach [a, b, c, d] X.env = (false, eval a X.env) :: starEach [b, c, d] X.env := by rfl) (hbs : starEach [b, c, d] X.env = (false, eval b X.env) :: starEach [c, d] X.env := by rfl) (hcs : starEach [c, d] X.env = (false, eval c X.env) :: starEach [d] X.env := by rfl) (hds : starEach [d] X.env = (false, eval d X.env) :: starEach [] X.env := by rfl) (hΓ : Γ[i]? = some .src := by rfl) (hN : X.N[i]? = some y := by rfl) (hv : Vis X.env.scope y := by first | exact Or.inl rfl | exact Or.inr (Or.inl rfl) | exact Or.inr (Or.inr rfl)) (hyd : (y == ("__debug__" : Str)) = false := by decide) (hyc : (y == ("__classdict__" : Str)) = false := by decide) (hsrc : starEach (.Name y q :: [a, b, c, d]) X.env = (false, eval (.Name y q) X.env) :: starEach [a, b, c, d] X.env := by rfl) (hpl : (backTo pos (starEach [a, b, c, d] X.env)).any (·.1) = false := by rfl) :
    EJ X R Γ (.Call (.Name x p) [.Name y q, a, b, c, d] [] pos) er (bindM mα fun v0 => bindM mβ fun v1 => bindM mγ fun v2 => bindM mδ fun v3 => g v0 v1 v2 v3) := by
  have h := e_callG (pos := pos) (p := p) F hG hr hm hk hB (a_src i (a_cons ha (a_cons hb (a_cons hc (a_cons hd a_nil hds) hcs) hbs) has) hΓ hN hv hyd hyc hsrc) hg hdb hsrc hpl
  simpa using h
theorem e_c5 {k : Nat} {f : Addr} {fd : FuncData} {ps : List Str} {x : Str} {p : Pos} {g : α → β → γ → δ → ζ → M ρ} {mα : M α} {mβ : M β} {mγ : M γ} {mδ : M δ} {mζ : M ζ} (F : FnG X.prog X.w X.K X.mg X.base k f fd ps (SpM (fun p : α × β × γ × δ × ζ × Unit => [.fz (ea p.1), .fz (eb p.2.1), .fz (ec p.2.2.1), .fz (ed p.2.2.2.1), .fz (ez p.2.2.2.2.1)]) er (fun p : α × β × γ × δ × ζ × Unit => g p.1 p.2.1 p.2.2.1 p.2.2.2.1 p.2.2.2.2.1))) (hG : X.A.guards = some []) (hr : Room k X.A) (hm : X.mg x = some (.ref f)) (hk : PySem.W.keepIn X.K (.ref f) = true)
    (hB : Binds X.K fd ps []) (ha : EJ X R Γ a ea mα) (hb : EJ X R Γ b eb mβ) (hc : EJ X R Γ c ec mγ) (hd : EJ X R Γ d ed mδ) (hz : EJ X R Γ z ez mζ) (hg : Gl X x := by rfl) (hdb : (x == ("__debug__" : Str)) = false := by decide) (has : starEach [a, b, c, d, z] X.env = (false, eval a X.env) :: starEach [b, c, d, z] X.env := by rfl) (hbs : starEach [b, c, d, z] X.env = (false, eval b X.env) :: starEach [c, d, z] X.env := by rfl) (hcs : starEach [c, d, z] X.env = (false, eval c X.env) :: starEach [d, z] X.env := by rfl) (hds : starEach [d, z] X.env = (false, eval d X.env) :: starEach [z] X.env := by rfl) (hzs : starEach [z] X.env = (false, eval z X.env) :: starEach [] X.env := by rfl) (hpl : (backTo pos (starEach [b, c, d, z] X.env)).any (·.1) = false := by rfl) :
    EJ X R Γ (.Call (.Name x p) [a, b, c, d, z] [] pos) er (bindM mα fun v0 => bindM mβ fun v1 => bindM mγ fun v2 => bindM mδ fun v3 => bindM mζ fun v4 => g v0 v1 v2 v3 v4) := by
  have h := e_callG (pos := pos) (p := p) F hG hr hm hk hB (a_cons ha (a_cons hb (a_cons hc (a_cons hd (a_cons hz a_nil hzs) hds) hcs) hbs) has) hg hdb has hpl
  simpa using h
theorem e_cs5 {k : Nat} {f : Addr} {fd : FuncData} {ps : List Str} {x : Str} {p : Pos} {y : Str} {q : Pos} (i : Nat) {g : α → β → γ → δ → ζ → M ρ} {mα : M α} {mβ : M β} {mγ : M γ} {mδ : M δ} {mζ : M ζ} (F : FnG X.prog X.w X.K X.mg X.base k f fd ps (SpM (fun p : α × β × γ × δ × ζ × Unit => [.src, .fz (ea p.1), .fz (eb p.2.1), .fz (ec p.2.2.1), .fz (ed p.2.2.2.1), .fz (ez p.2.2.2.2.1)]) er (fun p : α × β × γ × δ × ζ × Unit => g p.1 p.2.1 p.2.2.1 p.2.2.2.1 p.2.2.2.2.1))) (hG : X.A.guards = some []) (hr : Room k X.A) (hm : X.mg x = some (.ref f)) (hk : PySem.W.keepIn X.K (.ref f) = true)
    (hB : Binds X.K fd ps []) (ha : EJ X R Γ a ea mα) (hb : EJ X R Γ b eb mβ) (hc : EJ X R Γ c ec mγ) (hd : EJ X R Γ d ed mδ) (hz : EJ X R Γ z ez mζ) (hg : Gl X x := by rfl) (hdb : (x == ("__debug__" : Str)) = false := by decide) (has : starEach [a, b, c, d, z] X.env = (false, eval a X.env) :: starEach [b, c, d, z] X.env := by rfl) (hbs : starEach [b, c, d, z] X.env = (false, eval b X.env) :: starEach [c, d, z] X.env := by rfl) (hcs : starEach [c, d, z] X.env = (false, eval c X.env) :: starEach [d, z] X.env := by rfl) (hds : starEach [d, z] X.env = (false, eval d X.env) :: starEach [z] X.env := by rfl) (hzs : starEach [z] X.env = (false, eval z X.env) :: starEach [] X.env := by rfl) (hΓ : Γ[i]? = some .src := by rfl) (hN : X.N[i]? = some y := by rfl) (hv : Vis X.env.scope y := by first | exact Or.inl rfl | exact Or.inr (Or.inl rfl) | exact Or.inr (Or.inr rfl)) (hyd : (y == ("__debug__" : Str)) = false := by decide) (hyc : (y == ("__classdict__" : Str)) = false := by decide) (hsrc : starEach (.Name y q :: [a, b, c, d, z]) X.env = (false, eval (.Name y q) X.env) :: starEach [a, b, c, d, z] X.env := by rfl) (hpl : (backTo pos (starEach [a, b, c, d, z] X.env)).any (·.1) = false := by rfl) :
    EJ X R Γ (.Call (.Name x p) [.Name y q, a, b, c, d, z] [] pos) er (bindM mα fun v0 => bindM mβ fun v1 => bindM mγ fun v2 => bindM mδ fun v3 => bindM mζ fun v4 => g v0 v1 v2 v3 v4) := by
  have h := e_callG (pos := pos) (p := p) F hG hr hm hk hB (a_src i (a_cons ha (a_cons hb (a_cons hc (a_cons hd (a_cons hz a_nil hzs) hds) hcs) hbs) has) hΓ hN hv hyd hyc hsrc) hg hdb hsrc hpl
  simpa using h
theorem e_cs0 {k : Nat} {f : Addr} {fd : FuncData} {ps : List Str} {x y : Str} {p q : Pos} (i : Nat) {g : M ρ} (F : FnG X.prog X.w X.K X.mg X.base k f fd ps (SpM (fun _ : Unit => [.src]) er (fun _ => g))) (hG : X.A.guards = some []) (hr : Room k X.A) (hm : X.mg x = some (.ref f)) (hk : PySem.W.keepIn X.K (.ref f) = true)
    (hB : Binds X.K fd ps []) (hg : Gl X x := by rfl) (hdb : (x == ("__debug__" : Str)) = false := by decide) (hΓ : Γ[i]? = some .src := by rfl) (hN : X.N[i]? = some y := by rfl) (hv : Vis X.env.scope y := by first | exact Or.inl rfl | exact Or.inr (Or.inl rfl) | exact Or.inr (Or.inr rfl)) (hyd : (y == ("__debug__" : Str)) = false := by decide) (hyc : (y == ("__classdict__" : Str)) = false := by decide)
    (hsrc : starEach [.Name y q] X.env = (false, eval (.Name y q) X.env) :: starEach [] X.env := by rfl) : EJ X R Γ (.Call (.Name x p) [.Name y q] [] pos) er g := by
  have h := e_callG (R := R) (pos := pos) (p := p) F hG hr hm hk hB (a_src i a_nil hΓ hN hv hyd hyc hsrc) hg hdb hsrc rfl
  simpa using h
end
end Pz

namespace Pz
open PySem PySem.Spec PyProof.Rows L2
/-! ### the draws -/
def drawC : Nat → List Int → Int → List Int × Int
  | 0, c, l => (c, l)
  | n + 1, c, l => if l < 2 then (match c.getLast? with
    | some y => drawC n c.dropLast y
    | none => (c, l)) else (c, l)
def pickM (most : Int) : M Int := fun s =>
  if most < 2 then some (0, s) else if 1073741824 ≤ most then none else
  let q := drawC s.cells.length s.cells s.left
  if 1 < q.2 then some (q.2.fmod most, ⟨q.1, q.2.fdiv most, s.mixed, s.turn⟩)
  else
    let t := s.turn + 1
    let a := (s.mixed + t * 104729).fmod 998244353
    let b := (a * a + t * 17).fmod 2147483647
    some ((b.fdiv 16).fmod most, ⟨q.1, q.2, s.mixed, t⟩)
/-- a drawn number lies where it is asked to -/
theorem pick_lt {most : Int} (h : most < 1073741824) (s : Src) : ∃ r s', pickM most s = some (r, s') ∧ 0 ≤ r ∧ (r < most ∨ r = 0) := by
  unfold pickM
  by_cases h2 : most < 2
  · rw [if_pos h2]; exact ⟨0, s, rfl, Int.le_refl 0, .inr rfl⟩
  · rw [if_neg h2, if_neg (by omega)]
    have pos : 0 < most := by omega
    dsimp only
    split
    · exact ⟨_, _, rfl, Int.fmod_nonneg_of_pos _ pos, .inl (Int.fmod_lt_of_pos _ pos)⟩
    · exact ⟨_, _, rfl, Int.fmod_nonneg_of_pos _ pos, .inl (Int.fmod_lt_of_pos _ pos)⟩
theorem drawC_stop : ∀ (n : Nat) (c : List Int) (l : Int), ¬ l < 2 → drawC n c l = (c, l)
  | 0, _, _, _ => rfl
  | n + 1, c, l, h => by unfold drawC; rw [if_neg h]
theorem drawC_nil : ∀ (n : Nat) (l : Int), drawC n [] l = ([], l)
  | 0, _ => rfl
  | n + 1, l => by unfold drawC; split <;> rfl
theorem drawC_snoc (c : List Int) (y l : Int) (h : l < 2) : drawC (c ++ [y]).length (c ++ [y]) l = drawC c.length c y := by
  rw [List.length_append, List.length_singleton]
  conv => lhs; unfold drawC
  rw [if_pos h, List.getLast?_concat, List.dropLast_concat]
def srcKv (c : Addr) (l m t : Int) : List (Key × V) := [(.inr "cells", .ref c), (.inr "left", .int l), (.inr "mixed", .int m), (.inr "turn", .int t)]
theorem src_cells (c : Addr) (l m t : Int) : valV (srcKv c l m t) (.inr "cells") = some (.ref c) := rfl
theorem src_left (c : Addr) (l m t : Int) : valV (srcKv c l m t) (.inr "left") = some (.int l) := rfl
theorem src_mixed (c : Addr) (l m t : Int) : valV (srcKv c l m t) (.inr "mixed") = some (.int m) := rfl
theorem src_turn (c : Addr) (l m t : Int) : valV (srcKv c l m t) (.inr "turn") = some (.int t) := rfl
theorem put_left (c : Addr) (l m t x : Int) : putK (srcKv c l m t) (.inr "left") (.int x) = srcKv c x m t := rfl
theorem put_mixed (c : Addr) (l m t x : Int) : putK (srcKv c l m t) (.inr "mixed") (.int x) = srcKv c l x t := rfl
theorem put_turn (c : Addr) (l m t x : Int) : putK (srcKv c l m t) (.inr "turn") (.int x) = srcKv c l m x := rfl
theorem srcKv_few (c : Addr) (l m t : Int) : (srcKv c l m t).length < sizeLine := by show 4 < sizeLine; decide
/-- where a draw stands behind its loop -/
def tDrawn (a c : Addr) (most : Int) (st : Src) (H : Hp) (Q : VK) : TS := fun D σ H' => ∃ cs l, σ = [some (.ref a), some (.int most), some (.ref c), none, none, none] ∧ H' a = some (.dK (srcKv c l st.mixed st.turn)) ∧ H' c = some (.lst (cs.map V.int)) ∧
  drawC st.cells.length st.cells st.left = (cs, l) ∧ Keep (Zr (some (a, c))) H H' ∧ ∀ z H2, Q (.int z) H2 → D.rt (.int z) H2
end Pz

namespace Pz
open PySem PySem.Spec PyProof.Rows L2
/-! ### what the walks of one law share -/
/-- a def that is called: found, kept, its arguments bound -/
structure Cal (K : PySem.W.Frag) (mg : Str → Option Value) (x : Str) (f : Addr) (fd : FuncData) (ps : List Str) : Prop where
  mg : mg x = some (.ref f)
  kp : PySem.W.keepIn K (.ref f) = true
  bd : Binds K fd ps []
/-- the built-ins that no global name hides -/
structure Bl (mg : Str → Option Value) : Prop where
  b_len : mg "len" = none
  b_int : mg "int" = none
  b_abs : mg "abs" = none
  b_range : mg "range" = none
  b_sorted : mg "sorted" = none
  b_sum : mg "sum" = none
  b_all : mg "all" = none
  b_any : mg "any" = none
  b_tuple : mg "tuple" = none
  b_list : mg "list" = none
  b_max : mg "max" = none
  b_min : mg "min" = none
  b_repr : mg "repr" = none
  b_enumerate : mg "enumerate" = none
  b_zip : mg "zip" = none
  b_isinstance : mg "isinstance" = none
  b_bool : mg "bool" = none
  b_str : mg "str" = none
  b_dict : mg "dict" = none
theorem bt_len : bootBuiltins "len" = some (.builtin "len") := by decide +kernel
theorem bt_int : bootBuiltins "int" = some (.type "int") := by decide +kernel
theorem bt_abs : bootBuiltins "abs" = some (.builtin "abs") := by decide +kernel
theorem bt_sorted : bootBuiltins "sorted" = some (.builtin "sorted") := by decide +kernel
theorem bt_sum : bootBuiltins "sum" = some (.builtin "sum") := by decide +kernel
theorem bt_all : bootBuiltins "all" = some (.builtin "all") := by decide +kernel
theorem bt_any : bootBuiltins "any" = some (.builtin "any") := by decide +kernel
theorem bt_tuple : bootBuiltins "tuple" = some (.type "tuple") := by decide +kernel
theorem bt_list : bootBuiltins "list" = some (.type "list") := by decide +kernel
theorem bt_max : bootBuiltins "max" = some (.builtin "max") := by decide +kernel
theorem bt_min : bootBuiltins "min" = some (.builtin "min") := by decide +kernel
theorem bt_repr : bootBuiltins "repr" = some (.builtin "repr") := by decide +kernel
theorem bt_bool : bootBuiltins "bool" = some (.type "bool") := by decide +kernel
theorem bt_str : bootBuiltins "str" = some (.type "str") := by decide +kernel
theorem bt_dict : bootBuiltins "dict" = some (.type "dict") := by decide +kernel
theorem bt_isinstance : bootBuiltins "isinstance" = some (.builtin "isinstance") := by decide +kernel
/-- _law_of, for every kind of items -/
def ofM {α : Type} (xs : List α) : M α := bindM (pureM xs) fun x => bindM (bindM (bindM (pureM xs) fun y => pureM (y.length : Int)) fun n => pickM n) fun i => optM (atI x i)
structure OfG (P : Program) (w : World) (K : PySem.W.Frag) (mg : Str → Option Value) (base : Heap) (f : Addr) (fd : FuncData) : Prop where
  L : ∀ {α : Type} (ea : α → PyData), FnG P w K mg base 2 f fd ["source", "some"] (SpM (fun p : List α × Unit => [.src, .fz (eL ea p.1)]) ea (fun p => ofM p.1))
  T : ∀ {α : Type} (ea : α → PyData), FnG P w K mg base 2 f fd ["source", "some"] (SpM (fun p : List α × Unit => [.src, .fz (eT ea p.1)]) ea (fun p => ofM p.1))
section
variable {α β γ δ κ ρ ι : Type} {ea : α → PyData} {eb : β → PyData} {ec : γ → PyData} {er : ρ → PyData} {ei : ι → PyData} {X : Cx} {R : Res} {Γ Γ' : List Slot} {e a b c : Expr} {st : Stmt} {rest A B body : List Stmt} {pos : Pos} {out : κ → OutD}
theorem e_eqB {ma mb : M Bool} (ha : EJ X R Γ a eBool ma) (hb : EJ X R Γ b eBool mb) : EJ X R Γ (.Compare a [.Eq] [b] pos) eBool (bindM ma fun x => bindM mb fun y => pureM (decide (x = y))) := e_cmp op_eq v_eqB ha hb
theorem e_neB {ma mb : M Bool} (ha : EJ X R Γ a eBool ma) (hb : EJ X R Γ b eBool mb) : EJ X R Γ (.Compare a [.NotEq] [b] pos) eBool (bindM ma fun x => bindM mb fun y => pureM (!decide (x = y))) := e_cmp op_ne v_neB ha hb
theorem t_eqB {ma mb : M Bool} (ha : EJ X R Γ a eBool ma) (hb : EJ X R Γ b eBool mb) : TJ X R Γ (.Compare a [.Eq] [b] pos) (bindM ma fun x => bindM mb fun y => pureM (decide (x = y))) := t_cmp op_eq v_eqB ha hb
theorem t_neB {ma mb : M Bool} (ha : EJ X R Γ a eBool ma) (hb : EJ X R Γ b eBool mb) : TJ X R Γ (.Compare a [.NotEq] [b] pos) (bindM ma fun x => bindM mb fun y => pureM (!decide (x = y))) := t_cmp op_ne v_neB ha hb
theorem e_eqD {k : Nat} {ma : M α} {mb : M β} (hr : Room k X.A) (ha : EJ X R Γ a ea ma) (hb : EJ X R Γ b eb mb) : EJ X R Γ (.Compare a [.Eq] [b] pos) eBool (bindM ma fun x => bindM mb fun y => optM (eqD (ea x) (eb y))) := e_cmp (op_eqP hr.units) v_eqD ha hb
theorem e_neD {k : Nat} {ma : M α} {mb : M β} (hr : Room k X.A) (ha : EJ X R Γ a ea ma) (hb : EJ X R Γ b eb mb) : EJ X R Γ (.Compare a [.NotEq] [b] pos) eBool (bindM ma fun x => bindM mb fun y => optM ((eqD (ea x) (eb y)).map (!·))) := e_cmp (op_neP hr.units) v_neD ha hb
theorem t_eqD {k : Nat} {ma : M α} {mb : M β} (hr : Room k X.A) (ha : EJ X R Γ a ea ma) (hb : EJ X R Γ b eb mb) : TJ X R Γ (.Compare a [.Eq] [b] pos) (bindM ma fun x => bindM mb fun y => optM (eqD (ea x) (eb y))) := t_cmp (op_eqP hr.units) v_eqD ha hb
theorem t_neD {k : Nat} {ma : M α} {mb : M β} (hr : Room k X.A) (ha : EJ X R Γ a ea ma) (hb : EJ X R Γ b eb mb) : TJ X R Γ (.Compare a [.NotEq] [b] pos) (bindM ma fun x => bindM mb fun y => optM ((eqD (ea x) (eb y)).map (!·))) := t_cmp (op_neP hr.units) v_neD ha hb
end
end Pz

namespace Pz
open PySem PySem.Spec PyProof.Rows L2
def spSource (K : PySem.W.Frag) : Sp := fun vs H Q _ => ∃ (a : Addr) (ns : List Int), vs = [.ref a] ∧ SqL K H a (ns.map V.int) ∧ ns.length ≤ 63 ∧ ∀ s c st H', H s = none → H c = none → SrcAt s c st H' → Same H H' → Q (.ref s) H'
/-- law(script): the draws, then what the rest says -/
theorem law_ok {P : Program} {w : World} {K : PySem.W.Frag} {mg : Str → Option Value} {base : Heap} {st : Stmt} {f : Addr} {fd : FuncData} {N N' : List Str} {k : Nat} {fs : Addr} {ds : FuncData} {rest : List Stmt} {p1 p2 p3 p4 p5 : Pos}
    (F : Fun K "law" "law" st f fd) (S : FnScope N ["script"] (defScope st)) (hN : N = ("script" : Str) :: ("source" : Str) :: N') (hb : defBody st = .Assign [.Name "source" p1] (.Call (.Name "_law_source" p2) [.Name "script" p3] [] p4) p5 :: rest)
    (C : Cal K mg "_law_source" fs ds ["script"]) (Fs : FnG P w K mg base k fs ds ["script"] (spSource K)) (m : M Bool) (hm : ∀ st, ∃ st', m st = some (true, st'))
    (loc : Loc (defScope st) "source" ∧ Vis (defScope st) "script")
    (gl : ∀ (cdv : Value) (A : Around) (above : List Env) (s : Shared) (H : Hp) (E : XK), Gl (BX P w K mg base N "law" st f cdv A above s H E) "_law_source" ∧ starEach [Expr.Name "script" p3] (BX P w K mg base N "law" st f cdv A above s H E).env = (false, eval (.Name "script" p3) (BX P w K mg base N "law" st f cdv A above s H E).env) :: starEach [] (BX P w K mg base N "law" st f cdv A above s H E).env ∧
      swapsWith (.Call (.Name "_law_source" p2) [.Name "script" p3] [] p4) (some (.Name "source" p1)) p5.line (BX P w K mg base N "law" st f cdv A above s H E).env = pure false ∧ ((BX P w K mg base N "law" st f cdv A above s H E).fn "source" = true ∨ (BX P w K mg base N "law" st f cdv A above s H E).env.scope.names.lookup ("source" : Str) = some .local))
    (body : ∀ (cdv : Value) (A : Around) (above : List Env) (s : Shared) (H : Hp) (E : XK) (R : Res), A.guards = some [] → Room k (A.deeper (envOfC "law" (defScope st) s.heap.objs.size f cdv)) →
      SJ (BX P w K mg base N "law" st f cdv A above s H E) R (.un :: .src :: List.replicate N'.length .un) rest (fun r => .rt (eBool r)) m) :
    FnG P w K mg base (k + 1) f fd ["script"] (SpLaw K) := by
  refine g_def F S (fun vs H Q E ⟨a, ns, e, _⟩ => by rw [e]; rfl) (fun cdv A above s H vs Q E hG hr h => ?_)
  obtain ⟨a, ns, rfl, hS, hlen, _, q⟩ := h
  obtain ⟨g1, g2, g3, g4⟩ := gl cdv A above s H E
  rw [hb]
  subst hN
  refine ⟨_, pss_cons (ps_set (i := 1) S.nd rfl loc.1 (pe_callG Fs hG hr g1 C.mg C.kp C.bd (pa_cons (pe_var (i := 0) rfl loc.2 (by decide) (by decide)) pa_nil g2) (by decide) g2 rfl) g3 g4)
    (PSs.ex fun R => body cdv A above s H E R hG hr), ?_⟩
  refine ⟨_, rfl, ?_⟩
  refine ⟨a, ns, rfl, hS, hlen, fun sa c st H' ns nc hat hsame => ?_⟩
  obtain ⟨st', hst⟩ := hm st
  refine ⟨some (sa, c), Zr (some (sa, c)), H', fun _ => 0, st, true, st', ?_, hat, hst, fun v H2 _ _ r => by cases r; exact q H2⟩
  refine ⟨by simp [L2.start], fun i d e => ?_, fun i d e => ?_, fun i e => ?_, fun i j d d' e => ?_, Keep.refl H', fun x z => z, fun x z => okR.dom (R := some (sa, c)) hat z⟩
  · rcases i with _ | _ | i
    · cases e
    · cases e
    · have := List.mem_of_getElem? (show (List.replicate N'.length Slot.un)[i]? = some _ from e)
      rw [List.mem_replicate] at this
      cases this.2
  · rcases i with _ | _ | i
    · cases e
    · cases e
    · have := List.mem_of_getElem? (show (List.replicate N'.length Slot.un)[i]? = some _ from e)
      rw [List.mem_replicate] at this
      cases this.2
  · rcases i with _ | _ | i
    · cases e
    · exact ⟨sa, c, rfl, rfl⟩
    · have := List.mem_of_getElem? (show (List.replicate N'.length Slot.un)[i]? = some _ from e)
      rw [List.mem_replicate] at this
      cases this.2
  · rcases i with _ | _ | i
    · cases e
    · cases e
    · have := List.mem_of_getElem? (show (List.replicate N'.length Slot.un)[i]? = some _ from e)
      rw [List.mem_replicate] at this
      cases this.2
end Pz

/-! the plain side: what a reading hands back -/
namespace Pz
open PySem PySem.Spec PyProof.Rows L2

theorem bp {α β : Type} (a : α) (f : α → M β) : bindM (pureM a) f = f a := funext fun _ => Eq.trans rfl rfl
theorem nil_le {α : Type} {xs : List α} {n m : Nat} (h : xs.length ≤ n) (k : n ≤ m := by decide) : ([] : List α).length + xs.length ≤ m := by simp; omega
def Sat {α : Type} (m : M α) (Q : α → Prop) : Prop := ∀ st, ∃ r st', m st = some (r, st') ∧ Q r
section
variable {α β γ κ ρ ι : Type}
theorem Sat.pure {a : α} {Q : α → Prop} (h : Q a) : Sat (pureM a) Q := fun st => ⟨a, st, rfl, h⟩
theorem Sat.bind {m : M α} {f : α → M β} {Q : β → Prop} (h : Sat m fun a => Sat (f a) Q) : Sat (bindM m f) Q := fun st => by
  obtain ⟨a, u, e, q⟩ := h st
  obtain ⟨b, v, e2, q2⟩ := q u
  exact ⟨b, v, by unfold bindM; rw [e]; exact e2, q2⟩
theorem Sat.mono {m : M α} {Q Q' : α → Prop} (h : Sat m Q) (k : ∀ a, Q a → Q' a) : Sat m Q' := fun st => let ⟨a, u, e, q⟩ := h st; ⟨a, u, e, k a q⟩
theorem Sat.bind2 {m : M α} {f : α → M β} {Q : α → Prop} {Q' : β → Prop} (h : Sat m Q) (k : ∀ a, Q a → Sat (f a) Q') : Sat (bindM m f) Q' := Sat.bind (h.mono k)
theorem Sat.opt {o : Option α} {a : α} {Q : α → Prop} (h : o = some a) (q : Q a) : Sat (optM o) Q := by subst h; exact .pure q
theorem Sat.pick {n : Int} {Q : Int → Prop} (h : n < 1073741824) (q : ∀ r, 0 ≤ r → (r < n ∨ r = 0) → Q r) : Sat (pickM n) Q := fun st => by
  obtain ⟨r, s', e, h0, h1⟩ := pick_lt h st
  exact ⟨r, s', e, q r h0 h1⟩
theorem atI_nat {xs : List α} {i : Nat} (h : i < xs.length) : atI xs (i : Int) = some xs[i] := by
  unfold atI L2.ixN
  rw [if_pos (by omega), if_pos (by omega)]
  simp [h]
theorem Sat.ite {c : Bool} {a b : M α} {Q : α → Prop} (h1 : c = true → Sat a Q) (h2 : c = false → Sat b Q) : Sat (if c then a else b) Q := by
  cases c
  · exact h2 rfl
  · exact h1 rfl
theorem Sat.ofList {xs : List α} {Q : α → Prop} (h0 : xs ≠ []) (hl : xs.length < 1073741824) (q : ∀ x ∈ xs, Q x) : Sat (ofM xs) Q := by
  unfold ofM
  have pos : 0 < xs.length := List.length_pos_iff.mpr h0
  simp only [bind_pure]
  refine Sat.bind2 (Sat.pick (by omega) fun r h1 h2 => (show 0 ≤ r ∧ r < xs.length by omega)) fun r h => ?_
  obtain ⟨i, rfl⟩ : ∃ i : Nat, r = i := ⟨r.toNat, by omega⟩
  have hi : i < xs.length := by omega
  exact Sat.opt (a := xs[i]) (atI_nat hi) (q _ (List.getElem_mem hi))
theorem Sat.forM {f : β → ι → M β} {I : β → Prop} : ∀ {xs : List ι} {b0 : β}, I b0 → (∀ b, ∀ x ∈ xs, I b → Sat (f b x) I) → Sat (forM' f xs b0) I
  | [], b0, h0, _ => .pure h0
  | x :: xs, b0, h0, h => by
    unfold forM'
    exact .bind2 (h b0 x List.mem_cons_self h0) fun b hb => Sat.forM hb fun b y hy => h b y (List.mem_cons_of_mem _ hy)
theorem Sat.forO {f : β → ι → M (Out ρ β)} {I : β → Prop} : ∀ {xs : List ι} {b0 : β}, I b0 → (∀ b, ∀ x ∈ xs, I b → Sat (f b x) fun o => ∃ b, o = .nx b ∧ I b) → Sat (forO f xs b0) fun o => ∃ b, o = .nx b ∧ I b
  | [], b0, h0, _ => .pure ⟨b0, rfl, h0⟩
  | x :: xs, b0, h0, h => by
    unfold Pz.forO
    refine .bind2 (h b0 x List.mem_cons_self h0) fun o ho => ?_
    obtain ⟨b, rfl, hb⟩ := ho
    exact Sat.forO hb fun b y hy => h b y (List.mem_cons_of_mem _ hy)
theorem Sat.comp {c : ι → M Bool} {f : ι → M γ} {Q : γ → Prop} : ∀ {xs : List ι}, (∀ x ∈ xs, Sat (c x) fun b => b = true → Sat (f x) Q) → Sat (compM c f xs) fun ys => ys.length ≤ xs.length ∧ ∀ y ∈ ys, Q y
  | [], _ => .pure ⟨Nat.le_refl _, by simp⟩
  | x :: xs, h => by
    unfold compM
    have ih := Sat.comp (xs := xs) fun y hy => h y (List.mem_cons_of_mem _ hy)
    refine .bind2 (h x List.mem_cons_self) fun b hb => ?_
    cases b with
    | false => exact ih.mono fun ys hy => ⟨Nat.le_trans hy.1 (by simp), hy.2⟩
    | true => exact .bind2 (hb rfl) fun y hy => .bind2 ih fun ys hys => .pure ⟨by simp; exact hys.1, by
        intro z hz
        rcases List.mem_cons.mp hz with rfl | hz
        · exact hy
        · exact hys.2 z hz⟩
theorem Sat.compAll {f : ι → M γ} {Q : γ → Prop} : ∀ {xs : List ι}, (∀ x ∈ xs, Sat (f x) Q) → Sat (compM (fun _ => pureM true) f xs) fun ys => ys.length = xs.length ∧ ∀ y ∈ ys, Q y
  | [], _ => .pure ⟨rfl, by simp⟩
  | x :: xs, h => by
    unfold compM
    have ih := Sat.compAll (xs := xs) fun y hy => h y (List.mem_cons_of_mem _ hy)
    simp only [bind_pure, if_true]
    exact .bind2 (h x List.mem_cons_self) fun y hy => .bind2 ih fun ys hys => .pure ⟨by simp; exact hys.1, by
        intro z hz
        rcases List.mem_cons.mp hz with rfl | hz
        · exact hy
        · exact hys.2 z hz⟩

/-! ### readings that draw nothing -/
theorem compM_pure {c : ι → M Bool} {f : ι → M γ} (cc : ι → Bool) (ff : ι → γ) : ∀ {xs : List ι}, (∀ x ∈ xs, c x = pureM (cc x)) → (∀ x ∈ xs, cc x = true → f x = pureM (ff x)) → compM c f xs = pureM ((xs.filter cc).map ff)
  | [], _, _ => rfl
  | x :: xs, hc, hf => by
    unfold compM
    rw [hc x List.mem_cons_self, bind_pure, compM_pure cc ff (fun y hy => hc y (List.mem_cons_of_mem _ hy)) fun y hy => hf y (List.mem_cons_of_mem _ hy)]
    cases h : cc x with
    | false => simp [h]
    | true => simp [h, hf x List.mem_cons_self h]
theorem compM_map {f : ι → M γ} (ff : ι → γ) {xs : List ι} (hf : ∀ x ∈ xs, f x = pureM (ff x)) : compM (fun _ => pureM true) f xs = pureM (xs.map ff) := by
  have e := compM_pure (c := fun _ : ι => pureM true) (fun _ => true) ff (fun _ _ => rfl) fun x hx _ => hf x hx
  rw [List.filter_eq_self.mpr (fun _ _ => rfl)] at e
  exact e
theorem forM_acc {f : List γ → ι → M (List γ)} (h : ι → List γ) (n : Nat) : ∀ {xs : List ι} {b : List γ}, (∀ x ∈ xs, ∀ b, b.length + (h x).length ≤ n → f b x = pureM (b ++ h x)) → b.length + (xs.flatMap h).length ≤ n → forM' f xs b = pureM (b ++ xs.flatMap h)
  | [], b, _, _ => by simp [forM']
  | x :: xs, b, hf, hn => by
    unfold forM'
    simp only [List.flatMap_cons, List.length_append] at hn
    rw [hf x List.mem_cons_self b (by omega), bind_pure, forM_acc h n (fun y hy => hf y (List.mem_cons_of_mem _ hy)) (by simp only [List.length_append]; omega)]
    simp [List.flatMap_cons]
theorem forM_fold {f : β → ι → M β} (g : β → ι → β) (I : β → Prop) : ∀ {xs : List ι} {b : β}, (∀ x ∈ xs, ∀ b, I b → f b x = pureM (g b x) ∧ I (g b x)) → I b → forM' f xs b = pureM (xs.foldl g b)
  | [], _, _, _ => rfl
  | x :: xs, b, hf, hb => by
    unfold forM'
    obtain ⟨e, i⟩ := hf x List.mem_cons_self b hb
    rw [e, bind_pure, forM_fold g I (fun y hy => hf y (List.mem_cons_of_mem _ hy)) i]
    rfl
/-- for x in xs: if c(x): return r(x) -/
theorem forO_find {f : β → ι → M (Out ρ β)} (c : ι → Bool) (r : ι → ρ) (b : β) : ∀ {xs : List ι}, (∀ x ∈ xs, f b x = pureM (if c x then .rt (r x) else .nx b)) → forO f xs b = pureM (match xs.find? c with | some x => .rt (r x) | none => .nx b)
  | [], _ => rfl
  | x :: xs, hf => by
    unfold forO
    rw [hf x List.mem_cons_self, bind_pure]
    cases h : c x with
    | true => simp [List.find?, h]
    | false =>
      simp only [Bool.false_eq_true, if_false]
      rw [forO_find c r b fun y hy => hf y (List.mem_cons_of_mem _ hy)]
      simp [List.find?, h]
theorem smallM_pure {xs : List α} (h : xs.length ≤ sizeLine) : smallM (pureM xs) = pureM xs := by unfold smallM; rw [bind_pure, if_pos h]
theorem rangeM_ok {lo hi : Int} (h1 : -(2 ^ 61) ≤ lo) (h2 : lo ≤ 2 ^ 61) (h3 : -(2 ^ 61) ≤ hi) (h4 : hi ≤ 2 ^ 61) (h5 : (hi - lo).toNat ≤ 16777216) : rangeM lo hi = pureM (irange lo hi) := by
  unfold rangeM; rw [if_pos ⟨h1, h2, h3, h4, h5⟩]
theorem rangeM_sm {lo hi : Int} (h1 : -1000000 ≤ lo) (h2 : lo ≤ 1000000) (h3 : -1000000 ≤ hi) (h4 : hi ≤ 1000000) : rangeM lo hi = pureM (irange lo hi) := rangeM_ok (by omega) (by omega) (by omega) (by omega) (by omega)
theorem mem_irange {lo hi i : Int} : i ∈ irange lo hi ↔ lo ≤ i ∧ i < hi := by
  unfold irange
  simp only [List.mem_map, List.mem_range]
  constructor
  · rintro ⟨j, h, rfl⟩; omega
  · rintro ⟨h1, h2⟩; exact ⟨(i - lo).toNat, by omega, by omega⟩
@[simp] theorem length_irange {lo hi : Int} : (irange lo hi).length = (hi - lo).toNat := by simp [irange]
theorem appM_ok {xs : List α} {x : α} (h : xs.length < sizeLine) : appM xs x = pureM (xs ++ [x]) := by unfold appM; rw [if_pos h]
theorem extM_ok {xs ys : List α} (h : xs.length + ys.length ≤ sizeLine) : extM xs ys = pureM (xs ++ ys) := by unfold extM; rw [if_pos h]
theorem catO_ok {xs ys : List α} (h : xs.length + ys.length ≤ sizeLine) : catO xs ys = some (xs ++ ys) := by unfold catO; rw [if_pos h]
theorem mulO_ok {x y : Int} (h : x.natAbs < 2 ^ 64 ∨ y.natAbs < 2 ^ 64) : mulO x y = some (x * y) := by unfold mulO; rw [if_pos h]
theorem divO_ok {x y : Int} (h : y ≠ 0 ∧ y.natAbs < 1073741824) : divO x y = some (x.fdiv y) := by unfold divO; rw [if_pos h]
theorem modO_ok {x y : Int} (h : y ≠ 0) : modO x y = some (x.fmod y) := by unfold modO; rw [if_pos h]
theorem powO_ok {x y : Int} (h : 0 ≤ y ∧ y ≤ 1000000 ∧ x.natAbs < 2 ^ 64) : powO x y = some (x ^ y.toNat) := by unfold powO; rw [if_pos h]
theorem atI_ok {xs : List α} {i : Int} (h0 : 0 ≤ i) (h : i < xs.length) : ∃ x, atI xs i = some x ∧ xs[i.toNat]? = some x := by
  obtain ⟨j, rfl⟩ : ∃ j : Nat, i = j := ⟨i.toNat, by omega⟩
  have hj : j < xs.length := by omega
  exact ⟨xs[j], atI_nat hj, by simp [hj]⟩

/-! ### texts of data -/
structure Sh (dp wt : Nat) (d : PyData) : Prop where
  show_ : d.showable = true
  dic : d.hasDict = false
  dep : d.depth ≤ dp
  leaf : d.leavesShort 40 = true
  wgt : d.weight ≤ wt
theorem reprO_ok {wt : Nat} {d : PyData} (h : Sh 60 wt d) (hw : 42 * wt + 40 ≤ 16777216 := by decide) : reprO d = some d.shown := by
  unfold reprO
  exact if_pos ⟨h.show_, fun z => (by rw [h.dic] at z; cases z), h.dep, (by
    have h1 := PyData.shown_le 40 (by decide) d h.leaf
    have h2 : (40 + 2) * d.weight ≤ (40 + 2) * wt := Nat.mul_le_mul_left _ h.wgt
    rw [sizeLine_eq]
    omega)⟩
theorem Sh.mono {dp wt dp' wt' : Nat} {d : PyData} (h : Sh dp wt d) (h1 : dp ≤ dp') (h2 : wt ≤ wt') : Sh dp' wt' d := ⟨h.show_, h.dic, Nat.le_trans h.dep h1, h.leaf, Nat.le_trans h.wgt h2⟩
theorem log2_lt {n : Nat} (h : n < 10 ^ 12) : n.log2 < 40 := by
  by_cases h0 : n = 0
  · subst h0; decide
  · exact (Nat.log2_lt h0).mpr (Nat.lt_trans h (by decide))
theorem Sh.int {i : Int} (h : i.natAbs < 10 ^ 12) : Sh 0 40 (eInt i) := by
  have hl := log2_lt h
  refine ⟨by simp only [eInt, PyData.showable, decide_eq_true_eq]; omega, rfl, by simp [eInt, PyData.depth], by simp only [eInt, PyData.leavesShort, decide_eq_true_eq]; exact Nat.le_trans (PyData.shown_int_le h) (by decide), ?_⟩
  simp only [eInt, PyData.weight]
  split <;> omega
theorem Sh.big {i : Int} (h : i.natAbs < 10 ^ 30) : Sh 0 100 (eInt i) := by
  have hl : i.natAbs.log2 < 100 := by
    by_cases h0 : i.natAbs = 0
    · rw [h0]; decide
    · exact (Nat.log2_lt h0).mpr (Nat.lt_trans h (by decide))
  have ht := int_text_length_le10 (k := 30) (by decide) h
  refine ⟨by simp only [eInt, PyData.showable, decide_eq_true_eq]; omega, rfl, by simp [eInt, PyData.depth], ?_, ?_⟩
  · simp only [eInt, PyData.leavesShort, decide_eq_true_eq]
    show (Str.ofString (toString i)).length ≤ 40
    rw [PySem.ofString_length]; exact Nat.le_trans ht (by decide)
  · simp only [eInt, PyData.weight]
    split <;> omega
theorem Sh.bool {b : Bool} : Sh 0 0 (eBool b) := ⟨rfl, rfl, by simp [eBool, PyData.depth], rfl, by simp [eBool, PyData.weight]⟩
theorem Sh.non : Sh 0 0 .none := ⟨rfl, rfl, by simp [PyData.depth], rfl, by simp [PyData.weight]⟩
theorem Sh.all {dp wt : Nat} {e : α → PyData} : ∀ {xs : List α}, (∀ x ∈ xs, Sh dp wt (e x)) → PyData.showableAll (xs.map e) = true ∧ PyData.hasDictAll (xs.map e) = false ∧ PyData.depthAll (xs.map e) ≤ dp ∧ PyData.leavesShortAll 40 (xs.map e) = true ∧ PyData.weightAll (xs.map e) ≤ xs.length * (wt + 1)
  | [], _ => ⟨rfl, rfl, Nat.zero_le _, rfl, Nat.zero_le _⟩
  | x :: xs, h => by
    obtain ⟨h1, h2, h3, h4, h5⟩ := h x List.mem_cons_self
    obtain ⟨g1, g2, g3, g4, g5⟩ := Sh.all (xs := xs) fun y hy => h y (List.mem_cons_of_mem _ hy)
    have e2 : (xs.length + 1) * (wt + 1) = xs.length * (wt + 1) + (wt + 1) := Nat.succ_mul _ _
    refine ⟨by simp [PyData.showableAll, h1, g1], by simp [PyData.hasDictAll, h2, g2], by simp only [List.map_cons, PyData.depthAll]; omega, by simp [PyData.leavesShortAll, h4, g4], ?_⟩
    simp only [List.map_cons, PyData.weightAll, List.length_cons]
    omega
theorem Sh.lst {dp wt : Nat} {e : α → PyData} {xs : List α} (n : Nat) (hn : xs.length ≤ n) (h : ∀ x ∈ xs, Sh dp wt (e x)) : Sh (dp + 1) (n * (wt + 1)) (eL e xs) := by
  obtain ⟨g1, g2, g3, g4, g5⟩ := Sh.all h
  refine ⟨by simpa [eL, PyData.showable] using g1, by simpa [eL, PyData.hasDict] using g2, by simp only [eL, PyData.depth]; omega, by simpa [eL, PyData.leavesShort] using g4, ?_⟩
  simp only [eL, PyData.weight]
  exact Nat.le_trans g5 (Nat.mul_le_mul_right _ hn)
theorem Sh.tup {dp wt : Nat} {e : α → PyData} {xs : List α} (n : Nat) (hn : xs.length ≤ n) (h : ∀ x ∈ xs, Sh dp wt (e x)) : Sh (dp + 1) (n * (wt + 1)) (eT e xs) := by
  obtain ⟨g1, g2, g3, g4, g5⟩ := Sh.all h
  refine ⟨by simpa [eT, PyData.showable] using g1, by simpa [eT, PyData.hasDict] using g2, by simp only [eT, PyData.depth]; omega, by simpa [eT, PyData.leavesShort] using g4, ?_⟩
  simp only [eT, PyData.weight]
  exact Nat.le_trans g5 (Nat.mul_le_mul_right _ hn)
theorem Sh.opt {dp wt : Nat} {e : α → PyData} {o : Option α} (h : ∀ x, o = some x → Sh dp wt (e x)) : Sh dp wt (eO e o) := by
  cases o with
  | none => exact Sh.non.mono (Nat.zero_le _) (Nat.zero_le _)
  | some a => exact h a rfl
end
end Pz

namespace Pz
open PySem PySem.Spec PyProof.Rows L2

/-! ### enumerate(tuple) -/
set_option maxHeartbeats 1000000 in
theorem meets_enum1 {v : Value} {ob : Obj} {Hd : Heap → Prop} (Bg : Begins v ob Hd) :
    Meets (Builtin.«enumerate.__new__» ⟨[.type "enumerate", v], []⟩) (fun _ R sh => Hd sh.heap ∧
      R (.ok (.ret (.ref (sh.heap.push ob).objs.size))) { sh with heap := (sh.heap.push ob).push { cls := .type "enumerate", data := .fields #[.none, .bool false, .ref sh.heap.objs.size, rawInt 0, .none, .none] } }) :=
  .of_wp fun prog w A R sh want => by
    obtain ⟨hq, gq, dq, tq, oq⟩ := sh; obtain ⟨hd1, want⟩ := want
    have esub := sub_enumerate
    have iter1 : ∀ {A2 : Around} {E2 : Value → Shared → Prop} {Q2 : Value → Shared → Prop}, Q2 (.ref hq.objs.size) ⟨hq.push ob, gq, dq, tq, oq⟩ → wpAny (model prog w) A2 (pyIter v) Q2 E2 ⟨hq, gq, dq, tq, oq⟩ :=
      fun q2 => Bg.iter prog w _ _ ⟨hq, gq, dq, tq, oq⟩ _ hd1 q2
    wp_walk using iter1
    refine wpAny_stack_any fun stk => wpAny_pure ?_
    split
    · rename_i cq _ _ _ _ _
      cases (cq == Value.type "enumerate")
      · wp_walk using iter1
        exact ⟨_, rfl, want⟩
      · wp_walk using iter1
        exact ⟨_, rfl, want⟩
    · wp_walk using iter1
      exact ⟨_, rfl, want⟩
theorem call_enum1 {prog : Program} {w : World} {A : Around} {E : Value → Shared → Prop} {sh : Shared} {v : Value} {ob : Obj} {Hd : Heap → Prop} {Q : Value → Shared → Prop} (Bg : Begins v ob Hd) (hd1 : Hd sh.heap)
    (want : ∀ h2, IsEnum h2 (sh.heap.objs.size + 1) sh.heap.objs.size 0 .none → h2.get? sh.heap.objs.size = some ob → h2.objs.size = sh.heap.objs.size + 2 →
      (∀ b o2, sh.heap.get? b = some o2 → h2.get? b = some o2) → Q (.ref (sh.heap.objs.size + 1)) { sh with heap := h2 }) :
    wpAny (model prog w) A (call (.type "enumerate") [v]) Q E sh := by
  refine callType_new F.called_enumerate (by decide) (F.typeCall_enumerate_1 _) (F.newCall_enumerate_1 _) (fun u => F.args_object_init_2 u _) F.entry_enumerate_new
    (meets_enum1 Bg) ⟨hd1, ?_⟩
  have size1 : (sh.heap.push ob).objs.size = sh.heap.objs.size + 1 := Heap.size_push ..
  show _ ∧ _
  rw [size1]
  have is1 : IsEnum ((sh.heap.push ob).push { cls := .type "enumerate", data := .fields #[.none, .bool false, .ref sh.heap.objs.size, rawInt 0, .none, .none] }) (sh.heap.objs.size + 1) sh.heap.objs.size 0 .none := by
    have e1 := Heap.get?_push_size (sh.heap.push ob) (o := { cls := .type "enumerate", data := .fields #[.none, .bool false, .ref sh.heap.objs.size, rawInt 0, .none, .none] }) rfl
    rw [size1] at e1; exact e1
  exact ⟨⟨_, is1, rfl⟩, want _ is1 (Heap.get?_push_of_some _ (Heap.get?_push_size _ Bg.free)) (by rw [Heap.size_push, size1]) fun b o2 x => Heap.get?_push_of_some _ (Heap.get?_push_of_some _ x)⟩
/-- the tuple at a, each item in a new pair -/
def IteT (K : PySem.W.Frag) (a : Addr) : It :=
  ⟨fun i H => ∃ (ys : List V) (y : V), SqT K H a ys ∧ ys[i]? = some y, fun i H v H2 => ∃ T y, v = .ref T ∧ H T = none ∧ H2 = upd H T (.tup [.int (i : Nat), y]) ∧ ∀ ys, SqT K H a ys → ys[i]? = some y, fun i H => ∃ ys : List V, SqT K H a ys ∧ ys.length ≤ i⟩
theorem turn_enumT {P : Program} {w : World} {K : PySem.W.Frag} {elts : List Expr} {kk : Nat} {tpos : Pos} (a e it : Addr) :
    Turn P w K (.Tuple elts kk tpos) (IteT K a) [e, it] e (fun i h => (∃ old, IsEnum h e it ((i : Nat) : Int) old) ∧ h.IsTupleIter it a i ∧ e ≠ it) where
  mem := by simp
  obj := fun i hh stt b hb => by
    obtain ⟨⟨old, en⟩, ⟨o, ho, hc, hd⟩, _⟩ := stt
    rcases (show b = e ∨ b = it by simpa using hb) with z | z
    · rw [z]; exact ⟨_, en, fun v q => nomatch q⟩
    · rw [z]; exact ⟨o, ho, fun v q => by rw [hd] at q; cases q⟩
  keep := fun i h1 h2 stt k => by
    obtain ⟨⟨old, en⟩, ⟨o, ho, hc, hd⟩, hne⟩ := stt
    exact ⟨⟨old, k e (by simp) _ en⟩, ⟨o, k it (by simp) _ ho, hc, hd⟩, hne⟩
  item := by
    intro X hP hw hK hc i pins s σ H E I hf stt hg
    subst hP hw hK
    obtain ⟨⟨old, en⟩, hit, hne⟩ := stt
    obtain ⟨ys, y, hq, hy⟩ := hg
    obtain ⟨its, rv, tup, hz⟩ := I.tuple hq
    obtain ⟨u, hu, ru⟩ := rv.get hy
    have lte : e < s.heap.objs.size := Heap.lt_size en
    have lti : it < s.heap.objs.size := by obtain ⟨_, q, _⟩ := hit; exact Heap.lt_size q
    have tup' : s.heap.IsTuple a its.toArray := tup
    have nea : e ≠ a := fun z => by
      obtain ⟨o, ho, hc, _⟩ := tup'
      subst z
      have en2 : s.heap.get? e = some _ := en
      rw [ho] at en2; cases en2; simp at hc
    have nia : a ≠ it := fun z => by
      obtain ⟨o, ho, hc, _⟩ := tup'
      obtain ⟨o2, ho2, hc2, _⟩ := hit
      subst z
      rw [ho] at ho2; cases ho2; rw [hc] at hc2; simp at hc2
    have D := Draws.tuple (prog := X.prog) (w := X.w) (A := X.A.in1) (I.ok.hd hc) it a nia its.toArray
    have hlt : i < its.toArray.size := by have := (List.getElem?_eq_some_iff.mp hu).1; simpa using this
    refine wpAny_pyNext_enum_itemD D en ⟨hit, tup'⟩ hlt hne (by simp [hne, nea]) fun x h2 tk hx ho hst2 hT hsz hk => ?_
    obtain rfl : u = x := by
      have hx' : its.toArray[i]? = some x := hx
      rw [List.getElem?_toArray, hu] at hx'; exact Option.some.inj hx'
    refine ⟨_, rfl, wpAny_letOwnedTupleGo_enum (s := { s with heap := h2, toks := tk + 1 }) ho fun h3 en3 sb => ?_⟩
    have hT3 : h3.get? s.heap.objs.size = some { cls := .type "tuple", data := .seq #[.int i tk, u] } := (sb.2 _ (Nat.ne_of_gt lte)).trans hT
    have fresh : ObjOk X.prog X.w (upd H s.heap.objs.size (.tup [.int (i : Nat), y])) h3 s.heap.objs.size (.tup [.int (i : Nat), y]) :=
      ⟨by show 2 ≤ sizeLine; decide, [.int i tk, u], .cons ⟨_, rfl⟩ (.cons ru .nil), ⟨_, hT3, rfl, _, rfl⟩⟩
    have I3 : Inv X pins σ (upd H s.heap.objs.size (.tup [.int (i : Nat), y])) { s with heap := h3, toks := tk + 1 } :=
      I.turnedNew (ch := [e, it]) (fun b ob nb q => (sb.2 b (fun z => nb (by simp [z]))).trans (hk b ob (fun z => nb (by simp [z])) (fun z => nb (by simp [z])) q)) hf (Nat.le_refl _) fresh
    refine ⟨.ref s.heap.objs.size, _, I3, rfl, ⟨_, y, rfl, I.hok.fresh (Nat.le_refl _), rfl, fun zs hzs => by rw [I.tuple_inj hzs hq]; exact hy⟩, ⟨⟨u, ?_⟩, ?_, hne⟩, fun b hb => ?_⟩
    · rw [show ((i + 1 : Nat) : Int) = (i : Int) + 1 by omega]; exact en3
    · obtain ⟨⟨o, h1, h2', h3'⟩, _⟩ := hst2
      exact ⟨o, (sb.2 it (Ne.symm hne)).trans h1, h2', h3'⟩
    · have ltb : b < s.heap.objs.size := by
        rcases (show b = e ∨ b = it by simpa using hb) with z | z
        · rw [z]; exact lte
        · rw [z]; exact lti
      rw [upd_ne (Nat.ne_of_lt ltb)]
      exact (hf b hb).1
  done := by
    intro X hP hw hK hc i pins s σ H E I hf stt hg
    subst hP hw hK
    obtain ⟨⟨old, en⟩, hit, hne⟩ := stt
    obtain ⟨ys, hq, hy⟩ := hg
    obtain ⟨its, rv, tup, hz⟩ := I.tuple hq
    have tup' : s.heap.IsTuple a its.toArray := tup
    obtain ⟨f0, f1, f2, f3, f4, f5⟩ := hf it (by simp)
    have hlen := rv.length
    have D : Draws X.prog X.w X.A.in1 it [it, a] i (fun _ _ => True) (fun j h => j = i ∧ h.IsTupleIter it a i ∧ h.IsTuple a its.toArray) :=
      { live := fun _ _ q => let ⟨o, ho, _⟩ := q.2.1; ⟨o, ho⟩
        frame := fun _ _ _ q hk => ⟨q.1, q.2.1.at fun o e => hk it (by simp) o e, q.2.2.at fun o e => hk a (by simp) o e⟩
        item := fun j s Q E hj q _ => absurd q.1 (Nat.ne_of_lt hj)
        done := fun s Q E q hE => wpAny_nextOf_tuple_end (I.ok.hd hc) q.2.1 q.2.2 (by simp; omega) hE }
    exact wpAny_pyNext_enum_endD D en ⟨rfl, hit, tup'⟩ fun h2 eb => ⟨rfl, I.turned (t' := s.toks) (fun b o nb q => eb b o nb q) f0 f1 f3 f4 f5⟩
  self := fun A i s Q E stt want => let ⟨⟨_, en⟩, _⟩ := stt; wpAny_pyIter_enum en want
def iEnumT (K : PySem.W.Frag) (ta : TA) : TI := fun σ H R => ta σ H fun vs H1 => ∃ a ys, vs = [.ref a] ∧ SqT K H1 a ys ∧ R (IteT K a) H1
theorem pi_enumT {X : Cx} {e : Expr} {ta : TA} {p pos tpos : Pos} {elts : List Expr} {kk : Nat} (hg : Gl X "enumerate") (hm : X.mg "enumerate" = none) (ha : PA X [e] ta) (hs : starEach [e] X.env = [(false, eval e X.env)] := by rfl) :
    PI X (.Tuple elts kk tpos) (.Call (.Name "enumerate" p) [e] [] pos) (iEnumT X.K ta) := by
  refine ⟨fun pins s σ H R I want => ?_⟩
  refine Call_ (ld_blt I hg hm boot_enumerate (PyProof.Rows.callWith_type1 (thn (ha.run pos pins s σ H _ I want) fun us s1 ⟨vs, H1, I1, r1, q1⟩ => ?_) hs rfl))
  obtain ⟨a, ys, ex, hq, q⟩ := q1
  subst ex
  cases r1 with
  | cons r rr =>
    cases rr
    cases r
    obtain ⟨its, rv, tup, hz⟩ := I1.tuple hq
    refine call_enum1 (begins_tuple a its.toArray) (show s1.heap.IsTuple a its.toArray from tup) fun h2 en hit hsz hk => wpAny_pyIter_enum en ?_
    have I2 : Inv X pins σ H1 { s1 with heap := h2 } := I1.kept (t' := s1.toks) hk
    refine ⟨s1.heap.objs.size + 1, [s1.heap.objs.size + 1, s1.heap.objs.size], _, _, H1, rfl, I2, turn_enumT a (s1.heap.objs.size + 1) s1.heap.objs.size, ⟨⟨.none, en⟩, ⟨_, hit, rfl, rfl⟩, Nat.succ_ne_self _⟩, fun b hb => ?_, q⟩
    have le1 : s1.heap.objs.size ≤ b := by
      rcases (show b = s1.heap.objs.size + 1 ∨ b = s1.heap.objs.size by simpa using hb) with z | z
      · rw [z]; exact Nat.le_add_right _ _
      · rw [z]; exact Nat.le_refl _
    exact I1.fpOk le1 (I1.hok.fresh le1)
end Pz

namespace Pz
open PySem PySem.Spec PyProof.Rows L2

section
variable {α β γ δ κ ρ ι : Type} {ea : α → PyData} {eb : β → PyData} {ec : γ → PyData} {er : ρ → PyData} {ei : ι → PyData} {X : Cx} {R : Res} {Γ Γ' : List Slot} {e a b c : Expr} {st : Stmt} {rest A B body : List Stmt} {pos : Pos} {out : κ → OutD}
/-! ### enumerate, zip -/
def enumF : Nat → List α → List (Int × α × Unit)
  | _, [] => []
  | k, x :: xs => ((k : Int), x, ()) :: enumF (k + 1) xs
def enumL (xs : List α) : List (Int × α × Unit) := enumF 0 xs
theorem enumF_get : ∀ (k : Nat) (xs : List α) (i : Nat), (enumF k xs)[i]? = xs[i]?.map fun x => (((k + i : Nat) : Int), x, ())
  | _, [], _ => by simp [enumF]
  | k, x :: xs, 0 => by simp [enumF]
  | k, x :: xs, i + 1 => by
    have := enumF_get (k + 1) xs i
    simp only [enumF, List.getElem?_cons_succ, this]
    rw [show k + 1 + i = k + (i + 1) by omega]
theorem enumF_length : ∀ (k : Nat) (xs : List α), (enumF k xs).length = xs.length
  | _, [] => rfl
  | k, x :: xs => by simp [enumF, enumF_length (k + 1) xs]
@[simp] theorem enumL_length (xs : List α) : (enumL xs).length = xs.length := enumF_length 0 xs
theorem enumL_get (xs : List α) (i : Nat) : (enumL xs)[i]? = xs[i]?.map fun x => ((i : Int), x, ()) := by
  unfold enumL; rw [enumF_get]; simp
def zipL (xs : List α) (ys : List β) : List (α × β × Unit) := List.zipWith (fun x y => (x, y, ())) xs ys
theorem pair_rp {A' : Av} {H' : Hp} {T : Addr} {v w : V} {d1 d2 : PyData} (n : ¬ A' T) (h1 : Rp A' H' v d1) (h2 : Rp A' H' w d2) (hT : H' T = some (.tup [v, w])) : Rp A' H' (.ref T) (.tuple [d1, d2]) := .tup n hT (.cons h1 (.cons h2 .nil))
theorem itok_enumL {K : PySem.W.Frag} {A : Av} {H1 : Hp} {p : Addr} {vs : List V} {xs : List α} (na : ¬ A p) (ha : H1 p = some (.lst vs)) (r : RpAll A H1 vs (xs.map ea)) : ItOk (Ite K p) A H1 ((enumL xs).map (eP (eC eInt (eC ea eU)))) := fun H i k => by
  have hH := k _ _ na ha
  have hl := r.length
  rw [List.length_map] at hl
  refine ⟨fun h => ⟨vs, SqL.of hH, by simpa [hl] using h⟩, fun d hd => ?_⟩
  rw [List.getElem?_map, enumL_get] at hd
  cases hx : xs[i]? with
  | none => rw [hx] at hd; cases hd
  | some x =>
    rw [hx] at hd
    obtain ⟨v, hv, rv⟩ := r.get (show (xs.map ea)[i]? = some (ea x) by rw [List.getElem?_map, hx]; rfl)
    refine ⟨⟨vs, v, SqL.of hH, hv⟩, fun w H' y => ?_⟩
    obtain ⟨T, y', rfl, nT, rfl, hy⟩ := y
    have e1 := hy vs (SqL.of hH)
    rw [hv] at e1
    obtain rfl : v = y' := Option.some.inj e1
    refine ⟨same_new nT, fun A' h1 h2 => ?_⟩
    have hd' : PyData.tuple [eInt (i : Int), ea x] = d := Option.some.inj hd
    subst hd'
    exact pair_rp (fun z => h2 T z nT) (.int _) ((Rp.move (fun b o nb e => ⟨h1 b o nb e, k b o nb e⟩) _ _ rv).keep (Keep.of_same (same_new nT))) upd_same
theorem itok_enumT {K : PySem.W.Frag} {A : Av} {H1 : Hp} {p : Addr} {vs : List V} {xs : List α} (na : ¬ A p) (ha : H1 p = some (.tup vs)) (r : RpAll A H1 vs (xs.map ea)) : ItOk (IteT K p) A H1 ((enumL xs).map (eP (eC eInt (eC ea eU)))) := fun H i k => by
  have hH := k _ _ na ha
  have hl := r.length
  rw [List.length_map] at hl
  refine ⟨fun h => ⟨vs, SqT.of hH, by simpa [hl] using h⟩, fun d hd => ?_⟩
  rw [List.getElem?_map, enumL_get] at hd
  cases hx : xs[i]? with
  | none => rw [hx] at hd; cases hd
  | some x =>
    rw [hx] at hd
    obtain ⟨v, hv, rv⟩ := r.get (show (xs.map ea)[i]? = some (ea x) by rw [List.getElem?_map, hx]; rfl)
    refine ⟨⟨vs, v, SqT.of hH, hv⟩, fun w H' y => ?_⟩
    obtain ⟨T, y', rfl, nT, rfl, hy⟩ := y
    have e1 := hy vs (SqT.of hH)
    rw [hv] at e1
    obtain rfl : v = y' := Option.some.inj e1
    refine ⟨same_new nT, fun A' h1 h2 => ?_⟩
    have hd' : PyData.tuple [eInt (i : Int), ea x] = d := Option.some.inj hd
    subst hd'
    exact pair_rp (fun z => h2 T z nT) (.int _) ((Rp.move (fun b o nb e => ⟨h1 b o nb e, k b o nb e⟩) _ _ rv).keep (Keep.of_same (same_new nT))) upd_same
theorem i_enumL {elts : List Expr} {k : Nat} {tpos p : Pos} {m : M (List α)} (hm : X.mg "enumerate" = none) (h : EJ X R Γ e (eL ea) m) (hg : Gl X "enumerate" := by rfl) (hs : starEach [e] X.env = [(false, eval e X.env)] := by rfl) :
    IJ X R Γ (.Call (.Name "enumerate" p) [e] [] pos) (.Tuple elts k tpos) (eP (eC eInt (eC ea eU))) (bindM m fun x => pureM (enumL x)) := by
  refine PI.weak (PI.fits (pi_enum hg hm (pa_cons h pa_nil hs) hs)) fun σ H Rr ⟨O, H0, ow, st, z, st', rel, ok, e, q⟩ => ?_
  obtain ⟨x, s1, e1, e2⟩ := bind_some e
  obtain ⟨rfl, rfl⟩ := pure_some e2
  refine ⟨O, H0, ow, st, x, s1, rel, ok, e1, fun v H1 k1 o1 rp => ?_⟩
  cases rp with
  | @lst p0 vs _ na ha ra =>
    exact ⟨p0, vs, rfl, SqL.of ha, fun fit => q _ H1 k1 o1 (by have := fit p0 vs (.inl ha); rw [ra.length, List.length_map] at this; rw [enumL_length]; exact this) (itok_enumL na ha ra)⟩
theorem i_enumT {elts : List Expr} {k : Nat} {tpos p : Pos} {m : M (List α)} (hm : X.mg "enumerate" = none) (h : EJ X R Γ e (eT ea) m) (hg : Gl X "enumerate" := by rfl) (hs : starEach [e] X.env = [(false, eval e X.env)] := by rfl) :
    IJ X R Γ (.Call (.Name "enumerate" p) [e] [] pos) (.Tuple elts k tpos) (eP (eC eInt (eC ea eU))) (bindM m fun x => pureM (enumL x)) := by
  refine PI.weak (PI.fits (pi_enumT hg hm (pa_cons h pa_nil hs) hs)) fun σ H Rr ⟨O, H0, ow, st, z, st', rel, ok, e, q⟩ => ?_
  obtain ⟨x, s1, e1, e2⟩ := bind_some e
  obtain ⟨rfl, rfl⟩ := pure_some e2
  refine ⟨O, H0, ow, st, x, s1, rel, ok, e1, fun v H1 k1 o1 rp => ?_⟩
  cases rp with
  | @tup p0 vs _ na ha ra =>
    exact ⟨p0, vs, rfl, SqT.of ha, fun fit => q _ H1 k1 o1 (by have := fit p0 vs (.inr ha); rw [ra.length, List.length_map] at this; rw [enumL_length]; exact this) (itok_enumT na ha ra)⟩

/-! ### data that are seen to be of a type -/
theorem e_narrow {m : M α} (f : α → Option γ) (h : EJ X R Γ e ea m) (hf : ∀ x y, f x = some y → ea x = ec y) : EJ X R Γ e ec (bindM m fun x => optM (f x)) := by
  refine PE.weak h fun σ H Q ⟨O, H0, ow, st, z, st', rel, ok, e, q⟩ => ?_
  obtain ⟨x, s1, e1, e2⟩ := bind_some e
  obtain ⟨e3, rfl⟩ := optM_inv e2
  exact ⟨O, H0, ow, st, x, s1, rel, ok, e1, fun v H1 k1 o1 rp => q v H1 k1 o1 (by rw [← hf _ _ e3]; exact rp)⟩
def asInt : PyData → Option Int
  | .int i => some i
  | _ => none
def asBool : PyData → Option Bool
  | .bool b => some b
  | _ => none
def asStr : PyData → Option Str
  | .str x => some x
  | _ => none
def asTup : PyData → Option (List PyData)
  | .tuple ds => some ds
  | _ => none
def asLst : PyData → Option (List PyData)
  | .list ds => some ds
  | _ => none
theorem map_eD (ds : List PyData) : ds.map eD = ds := List.map_id ds
theorem e_dInt {m : M PyData} (h : EJ X R Γ e eD m) : EJ X R Γ e eInt (bindM m fun x => optM (asInt x)) := e_narrow asInt h fun x y q => by cases x <;> cases q <;> rfl
theorem e_dBool {m : M PyData} (h : EJ X R Γ e eD m) : EJ X R Γ e eBool (bindM m fun x => optM (asBool x)) := e_narrow asBool h fun x y q => by cases x <;> cases q <;> rfl
theorem e_dStr {m : M PyData} (h : EJ X R Γ e eD m) : EJ X R Γ e eStr (bindM m fun x => optM (asStr x)) := e_narrow asStr h fun x y q => by cases x <;> cases q <;> rfl
theorem e_dTup {m : M PyData} (h : EJ X R Γ e eD m) : EJ X R Γ e (eT eD) (bindM m fun x => optM (asTup x)) := e_narrow asTup h fun x y q => by cases x <;> cases q; simp [eT, eD, map_eD]
theorem e_dLst {m : M PyData} (h : EJ X R Γ e eD m) : EJ X R Γ e (eL eD) (bindM m fun x => optM (asLst x)) := e_narrow asLst h fun x y q => by cases x <;> cases q; simp [eL, eD, map_eD]
/-- t[j] of mixed data, all of one place's type -/
theorem e_dTupAs {m : M (List PyData)} (f : PyData → Option γ) (hf : ∀ x y, f x = some y → x = ec y) (h : EJ X R Γ e (eT eD) m) : EJ X R Γ e (eT ec) (bindM m fun xs => optM (xs.mapM f)) := e_narrow (fun xs => xs.mapM f) h fun xs ys q => by
  have : ∀ (xs : List PyData) (ys : List γ), xs.mapM f = some ys → xs.map eD = ys.map ec := by
    intro xs
    induction xs with
    | nil => intro ys q; simp at q; subst q; rfl
    | cons x xs ih =>
      intro ys q
      rw [List.mapM_cons] at q
      obtain ⟨y, e1, q⟩ := Option.bind_eq_some_iff.mp q
      obtain ⟨zs, e2, q⟩ := Option.bind_eq_some_iff.mp q
      cases q
      rw [List.map_cons, List.map_cons, ih _ e2, ← hf _ _ e1]
      rfl
  show PyData.tuple _ = PyData.tuple _
  rw [this xs ys q]

/-! ### isinstance -/
def tyN : PyData → String
  | .none => "NoneType"
  | .bool _ => "bool"
  | .int _ => "int"
  | .str _ => "str"
  | .list _ => "list"
  | .tuple _ => "tuple"
  | .dict _ => "dict"
def isTy (n : String) (d : PyData) : Bool := tyN d == n || (n == "int" && tyN d == "bool")
theorem rp_ty {K : PySem.W.Frag} {A : Av} {H : Hp} {v : V} {d : PyData} (r : Rp A H v d) : TyX K H v (.type (tyN d)) := by
  cases r with
  | non => exact .base .non
  | bl b => exact .base (.bl b)
  | int i => exact .base (.int i)
  | str x => exact .base (.str x)
  | lst _ h _ => exact .base (.lst h)
  | tup _ h _ => exact .base (.tup h)
  | dic _ h => exact .base (.dK h)
theorem kit_int {K : PySem.W.Frag} (d : PyData) : PySem.W.kitOne K (.type (tyN d)) (.type "int") = some (isTy "int" d) := by cases d <;> rfl
theorem kit_bool {K : PySem.W.Frag} (d : PyData) : PySem.W.kitOne K (.type (tyN d)) (.type "bool") = some (isTy "bool" d) := by cases d <;> rfl
theorem kit_str {K : PySem.W.Frag} (d : PyData) : PySem.W.kitOne K (.type (tyN d)) (.type "str") = some (isTy "str" d) := by cases d <;> rfl
theorem kit_tuple {K : PySem.W.Frag} (d : PyData) : PySem.W.kitOne K (.type (tyN d)) (.type "tuple") = some (isTy "tuple" d) := by cases d <;> rfl
theorem kit_list {K : PySem.W.Frag} (d : PyData) : PySem.W.kitOne K (.type (tyN d)) (.type "list") = some (isTy "list" d) := by cases d <;> rfl
theorem kit_dict {K : PySem.W.Frag} (d : PyData) : PySem.W.kitOne K (.type (tyN d)) (.type "dict") = some (isTy "dict" d) := by cases d <;> rfl
theorem e_isi {x : Str} {p1 p2 : Pos} {n : String} {m : M α} (hk : ∀ (K : PySem.W.Frag) d, PySem.W.kitOne K (.type (tyN d)) (.type n) = some (isTy n d)) (hm : X.mg "isinstance" = none) (hmT : X.mg x = none) (hvT : bootBuiltins x = some (.type n)) (ha : EJ X R Γ a ea m)
    (hg : Gl X "isinstance" := by rfl) (hgT : Gl X x := by rfl) (hn : x ≠ "__name__" := by decide) (hdb : (x == ("__debug__" : Str)) = false := by decide)
    (hs1 : starEach [a, .Name x p2] X.env = (false, eval a X.env) :: starEach [.Name x p2] X.env := by rfl) (hs2 : starEach [.Name x p2] X.env = (false, eval (.Name x p2) X.env) :: starEach [] X.env := by rfl) :
    EJ X R Γ (.Call (.Name "isinstance" p1) [a, .Name x p2] [] pos) eBool (bindM m fun y => pureM (isTy n (ea y))) := by
  refine PE.weak (pe_callB (x := "isinstance") call_isi hg hm bt_isinstance (pa_cons ha (pa_cons (pe_bltn (v := .ty n) hgT hmT hvT rfl hn hdb) pa_nil hs2) hs1) (by decide) (by decide) hs1 (by rw [hs2]; rfl)) fun σ H Q ⟨O, H0, ow, st, z, st', rel, ok, e, q⟩ => ?_
  obtain ⟨y, s1, e1, e2⟩ := bind_some e
  obtain ⟨rfl, rfl⟩ := pure_some e2
  refine ⟨O, H0, ow, st, y, s1, rel, ok, e1, fun v H1 k1 o1 rp => ?_⟩
  exact ⟨v, .ty n, _, _, _, rfl, .ty n, rp_ty rp, hk _ _, q _ H1 k1 o1 (.bl _)⟩

/-! ### in -/
def rInP : R2 := fun x y H Q => ∃ A d ds, Rp A H x d ∧ (Rp A H y (.list ds) ∨ Rp A H y (.tuple ds)) ∧ PyData.plainAll ds = true ∧ d.plain = true ∧ d.depth ≤ 60 ∧ Q (.bl (ds.any fun z => PyData.eqv z d)) H
def rNinP : R2 := fun x y H Q => ∃ A d ds, Rp A H x d ∧ (Rp A H y (.list ds) ∨ Rp A H y (.tuple ds)) ∧ PyData.plainAll ds = true ∧ d.plain = true ∧ d.depth ≤ 60 ∧ Q (.bl (!ds.any fun z => PyData.eqv z d)) H
theorem op_inP (hu : X.A.units + 64 < cLine) : OpR X (compareOp .In) rInP := fun pins s σ H x y v u Q I rx ry h => by
  obtain ⟨A, d, ds, hd, hc, p1, p2, dp, q⟩ := h
  obtain ⟨as, r1, _⟩ := Rp.reads I d x v hd rx
  rcases hc with hc | hc
  · obtain ⟨bs, r2, _⟩ := Rp.reads I _ y u hc ry
    exact SeqAt.in_list_data r2 r1 p1 p2 (by omega) ⟨.bl _, H, I, rfl, q⟩
  · obtain ⟨bs, r2, _⟩ := Rp.reads I _ y u hc ry
    exact SeqAt.in_tuple_data r2 r1 p1 p2 (by omega) ⟨.bl _, H, I, rfl, q⟩
theorem op_ninP (hu : X.A.units + 64 < cLine) : OpR X (compareOp .NotIn) rNinP := fun pins s σ H x y v u Q I rx ry h => by
  obtain ⟨A, d, ds, hd, hc, p1, p2, dp, q⟩ := h
  obtain ⟨as, r1, _⟩ := Rp.reads I d x v hd rx
  rcases hc with hc | hc
  · obtain ⟨bs, r2, _⟩ := Rp.reads I _ y u hc ry
    exact SeqAt.notIn_list_data r2 r1 p1 p2 (by omega) ⟨.bl _, H, I, rfl, q⟩
  · obtain ⟨bs, r2, _⟩ := Rp.reads I _ y u hc ry
    exact SeqAt.notIn_tuple_data r2 r1 p1 p2 (by omega) ⟨.bl _, H, I, rfl, q⟩
theorem any_mem [DecidableEq α] {n : Nat} (h : Dc n ea) (x : α) (xs : List α) : ((xs.map ea).any fun z => PyData.eqv z (ea x)) = decide (x ∈ xs) := by
  rw [List.any_map, Bool.eq_iff_iff, List.any_eq_true, decide_eq_true_eq]
  constructor
  · rintro ⟨y, hy, e⟩
    have := (h.eqv y x).symm.trans e
    rw [decide_eq_true_eq] at this
    rw [← this]; exact hy
  · exact fun hx => ⟨x, hx, by have := h.eqv x x; rw [decide_eq_true rfl] at this; exact this⟩
theorem v_inL {n : Nat} [DecidableEq α] (h : Dc n ea) (hn : n ≤ 60 := by decide) : VOp rInP ea (eL ea) eBool (fun x xs => some (decide (x ∈ xs))) := fun A H x xs vx vy Q z ad r1 r2 e q => by
  cases e
  refine ⟨A, _, _, r1, .inl r2, h.plainAll _, h.plain _, Nat.le_trans (h.depth _) hn, ?_⟩
  rw [any_mem h]
  exact q _ H (Same.refl H) (.bl _)
theorem v_inT {n : Nat} [DecidableEq α] (h : Dc n ea) (hn : n ≤ 60 := by decide) : VOp rInP ea (eT ea) eBool (fun x xs => some (decide (x ∈ xs))) := fun A H x xs vx vy Q z ad r1 r2 e q => by
  cases e
  refine ⟨A, _, _, r1, .inr r2, h.plainAll _, h.plain _, Nat.le_trans (h.depth _) hn, ?_⟩
  rw [any_mem h]
  exact q _ H (Same.refl H) (.bl _)
theorem v_ninL {n : Nat} [DecidableEq α] (h : Dc n ea) (hn : n ≤ 60 := by decide) : VOp rNinP ea (eL ea) eBool (fun x xs => some (!decide (x ∈ xs))) := fun A H x xs vx vy Q z ad r1 r2 e q => by
  cases e
  refine ⟨A, _, _, r1, .inl r2, h.plainAll _, h.plain _, Nat.le_trans (h.depth _) hn, ?_⟩
  rw [any_mem h]
  exact q _ H (Same.refl H) (.bl _)
theorem v_ninT {n : Nat} [DecidableEq α] (h : Dc n ea) (hn : n ≤ 60 := by decide) : VOp rNinP ea (eT ea) eBool (fun x xs => some (!decide (x ∈ xs))) := fun A H x xs vx vy Q z ad r1 r2 e q => by
  cases e
  refine ⟨A, _, _, r1, .inr r2, h.plainAll _, h.plain _, Nat.le_trans (h.depth _) hn, ?_⟩
  rw [any_mem h]
  exact q _ H (Same.refl H) (.bl _)
def inD (d c : PyData) : Option Bool := match c with
  | .list ds | .tuple ds => if PyData.plainAll ds = true ∧ d.plain = true ∧ d.depth ≤ 60 then some (ds.any fun z => PyData.eqv z d) else none
  | _ => none
theorem inD_some {d c : PyData} {b : Bool} (h : inD d c = some b) : ∃ ds, (c = .list ds ∨ c = .tuple ds) ∧ PyData.plainAll ds = true ∧ d.plain = true ∧ d.depth ≤ 60 ∧ (ds.any fun z => PyData.eqv z d) = b := by
  cases c with
  | list ds => obtain ⟨⟨h1, h2, h3⟩, h4⟩ := oif (show (if PyData.plainAll ds = true ∧ d.plain = true ∧ d.depth ≤ 60 then some (ds.any fun z => PyData.eqv z d) else none) = some b from h); exact ⟨ds, .inl rfl, h1, h2, h3, h4⟩
  | tuple ds => obtain ⟨⟨h1, h2, h3⟩, h4⟩ := oif (show (if PyData.plainAll ds = true ∧ d.plain = true ∧ d.depth ≤ 60 then some (ds.any fun z => PyData.eqv z d) else none) = some b from h); exact ⟨ds, .inr rfl, h1, h2, h3, h4⟩
  | _ => cases h
theorem v_inD : VOp rInP ea eb eBool (fun x xs => inD (ea x) (eb xs)) := fun A H x xs vx vy Q z ad r1 r2 e q => by
  obtain ⟨ds, hc, h1, h2, h3, rfl⟩ := inD_some e
  refine ⟨A, _, ds, r1, ?_, h1, h2, h3, q _ H (Same.refl H) (.bl _)⟩
  rcases hc with hc | hc
  · rw [hc] at r2; exact .inl r2
  · rw [hc] at r2; exact .inr r2
theorem v_ninD : VOp rNinP ea eb eBool (fun x xs => (inD (ea x) (eb xs)).map (!·)) := fun A H x xs vx vy Q z ad r1 r2 e q => by
  obtain ⟨b, e1, rfl⟩ := Option.map_eq_some_iff.mp e
  obtain ⟨ds, hc, h1, h2, h3, rfl⟩ := inD_some e1
  refine ⟨A, _, ds, r1, ?_, h1, h2, h3, q _ H (Same.refl H) (.bl _)⟩
  rcases hc with hc | hc
  · rw [hc] at r2; exact .inl r2
  · rw [hc] at r2; exact .inr r2
theorem e_inL {n k : Nat} [DecidableEq α] {ma : M α} {mb : M (List α)} (hr : Room k X.A) (h : Dc n ea) (ha : EJ X R Γ a ea ma) (hb : EJ X R Γ b (eL ea) mb) (hn : n ≤ 60 := by decide) (hmk : behindInMarks .In b = false := by rfl) : EJ X R Γ (.Compare a [.In] [b] pos) eBool (bindM ma fun x => bindM mb fun y => pureM (decide (x ∈ y))) := e_cmp (op_inP hr.units) (v_inL h hn) ha hb hmk
theorem e_inT {n k : Nat} [DecidableEq α] {ma : M α} {mb : M (List α)} (hr : Room k X.A) (h : Dc n ea) (ha : EJ X R Γ a ea ma) (hb : EJ X R Γ b (eT ea) mb) (hn : n ≤ 60 := by decide) (hmk : behindInMarks .In b = false := by rfl) : EJ X R Γ (.Compare a [.In] [b] pos) eBool (bindM ma fun x => bindM mb fun y => pureM (decide (x ∈ y))) := e_cmp (op_inP hr.units) (v_inT h hn) ha hb hmk
theorem e_ninL {n k : Nat} [DecidableEq α] {ma : M α} {mb : M (List α)} (hr : Room k X.A) (h : Dc n ea) (ha : EJ X R Γ a ea ma) (hb : EJ X R Γ b (eL ea) mb) (hn : n ≤ 60 := by decide) (hmk : behindInMarks .NotIn b = false := by rfl) : EJ X R Γ (.Compare a [.NotIn] [b] pos) eBool (bindM ma fun x => bindM mb fun y => pureM (!decide (x ∈ y))) := e_cmp (op_ninP hr.units) (v_ninL h hn) ha hb hmk
theorem e_ninT {n k : Nat} [DecidableEq α] {ma : M α} {mb : M (List α)} (hr : Room k X.A) (h : Dc n ea) (ha : EJ X R Γ a ea ma) (hb : EJ X R Γ b (eT ea) mb) (hn : n ≤ 60 := by decide) (hmk : behindInMarks .NotIn b = false := by rfl) : EJ X R Γ (.Compare a [.NotIn] [b] pos) eBool (bindM ma fun x => bindM mb fun y => pureM (!decide (x ∈ y))) := e_cmp (op_ninP hr.units) (v_ninT h hn) ha hb hmk
theorem t_inL {n k : Nat} [DecidableEq α] {ma : M α} {mb : M (List α)} (hr : Room k X.A) (h : Dc n ea) (ha : EJ X R Γ a ea ma) (hb : EJ X R Γ b (eL ea) mb) (hn : n ≤ 60 := by decide) (hmk : behindInMarks .In b = false := by rfl) : TJ X R Γ (.Compare a [.In] [b] pos) (bindM ma fun x => bindM mb fun y => pureM (decide (x ∈ y))) := t_cmp (op_inP hr.units) (v_inL h hn) ha hb hmk
theorem t_inT {n k : Nat} [DecidableEq α] {ma : M α} {mb : M (List α)} (hr : Room k X.A) (h : Dc n ea) (ha : EJ X R Γ a ea ma) (hb : EJ X R Γ b (eT ea) mb) (hn : n ≤ 60 := by decide) (hmk : behindInMarks .In b = false := by rfl) : TJ X R Γ (.Compare a [.In] [b] pos) (bindM ma fun x => bindM mb fun y => pureM (decide (x ∈ y))) := t_cmp (op_inP hr.units) (v_inT h hn) ha hb hmk
theorem t_ninL {n k : Nat} [DecidableEq α] {ma : M α} {mb : M (List α)} (hr : Room k X.A) (h : Dc n ea) (ha : EJ X R Γ a ea ma) (hb : EJ X R Γ b (eL ea) mb) (hn : n ≤ 60 := by decide) (hmk : behindInMarks .NotIn b = false := by rfl) : TJ X R Γ (.Compare a [.NotIn] [b] pos) (bindM ma fun x => bindM mb fun y => pureM (!decide (x ∈ y))) := t_cmp (op_ninP hr.units) (v_ninL h hn) ha hb hmk
theorem t_ninT {n k : Nat} [DecidableEq α] {ma : M α} {mb : M (List α)} (hr : Room k X.A) (h : Dc n ea) (ha : EJ X R Γ a ea ma) (hb : EJ X R Γ b (eT ea) mb) (hn : n ≤ 60 := by decide) (hmk : behindInMarks .NotIn b = false := by rfl) : TJ X R Γ (.Compare a [.NotIn] [b] pos) (bindM ma fun x => bindM mb fun y => pureM (!decide (x ∈ y))) := t_cmp (op_ninP hr.units) (v_ninT h hn) ha hb hmk
theorem e_inD {k : Nat} {ma : M α} {mb : M β} (hr : Room k X.A) (ha : EJ X R Γ a ea ma) (hb : EJ X R Γ b eb mb) (hmk : behindInMarks .In b = false := by rfl) : EJ X R Γ (.Compare a [.In] [b] pos) eBool (bindM ma fun x => bindM mb fun y => optM (inD (ea x) (eb y))) := e_cmp (op_inP hr.units) v_inD ha hb hmk
theorem e_ninD {k : Nat} {ma : M α} {mb : M β} (hr : Room k X.A) (ha : EJ X R Γ a ea ma) (hb : EJ X R Γ b eb mb) (hmk : behindInMarks .NotIn b = false := by rfl) : EJ X R Γ (.Compare a [.NotIn] [b] pos) eBool (bindM ma fun x => bindM mb fun y => optM ((inD (ea x) (eb y)).map (!·))) := e_cmp (op_ninP hr.units) v_ninD ha hb hmk
theorem t_inD {k : Nat} {ma : M α} {mb : M β} (hr : Room k X.A) (ha : EJ X R Γ a ea ma) (hb : EJ X R Γ b eb mb) (hmk : behindInMarks .In b = false := by rfl) : TJ X R Γ (.Compare a [.In] [b] pos) (bindM ma fun x => bindM mb fun y => optM (inD (ea x) (eb y))) := t_cmp (op_inP hr.units) v_inD ha hb hmk
theorem t_ninD {k : Nat} {ma : M α} {mb : M β} (hr : Room k X.A) (ha : EJ X R Γ a ea ma) (hb : EJ X R Γ b eb mb) (hmk : behindInMarks .NotIn b = false := by rfl) : TJ X R Γ (.Compare a [.NotIn] [b] pos) (bindM ma fun x => bindM mb fun y => optM ((inD (ea x) (eb y)).map (!·))) := t_cmp (op_ninP hr.units) v_ninD ha hb hmk

/-! ### is None, of data -/
def isNon : PyData → Bool
  | .none => true
  | _ => false
theorem v_isD : VOp (fun x y H Q => y = .non ∧ Q (.bl (decide (x = .non))) H) eD eNon eBool (fun x _ => some (isNon x)) := fun A H x y vx vy Q z ad r1 r2 e q => by
  cases e
  cases r2
  refine ⟨rfl, ?_⟩
  have : decide (vx = .non) = isNon x := by
    have := rp_non r1
    cases x <;> simp [this, isNon, eD]
  rw [this]
  exact q _ H (Same.refl H) (.bl _)
theorem v_notD : VOp (fun x y H Q => y = .non ∧ Q (.bl (!decide (x = .non))) H) eD eNon eBool (fun x _ => some (!isNon x)) := fun A H x y vx vy Q z ad r1 r2 e q => by
  cases e
  cases r2
  refine ⟨rfl, ?_⟩
  have : decide (vx = .non) = isNon x := by
    have := rp_non r1
    cases x <;> simp [this, isNon, eD]
  rw [this]
  exact q _ H (Same.refl H) (.bl _)
theorem e_isNd {m : M PyData} {j p} (ha : EJ X R Γ a eD m) : EJ X R Γ (.Compare a [.Is] [.Constant .none j p] pos) eBool (bindM m fun x => pureM (isNon x)) := e_cmp op_isN v_isD ha e_non
theorem e_notNd {m : M PyData} {j p} (ha : EJ X R Γ a eD m) : EJ X R Γ (.Compare a [.IsNot] [.Constant .none j p] pos) eBool (bindM m fun x => pureM (!isNon x)) := e_cmp op_notN v_notD ha e_non
theorem t_isNd {m : M PyData} {j p} (ha : EJ X R Γ a eD m) : TJ X R Γ (.Compare a [.Is] [.Constant .none j p] pos) (bindM m fun x => pureM (isNon x)) := t_cmp op_isN v_isD ha e_non
theorem t_notNd {m : M PyData} {j p} (ha : EJ X R Γ a eD m) : TJ X R Γ (.Compare a [.IsNot] [.Constant .none j p] pos) (bindM m fun x => pureM (!isNon x)) := t_cmp op_notN v_notD ha e_non
end
/-- None or not: as data -/
theorem Dc.opt {α : Type} {n : Nat} [DecidableEq α] {ea : α → PyData} (h : NN ea) (k : Dc n ea) : Dc n (eO ea) := ⟨fun x => by cases x with
  | none => rfl
  | some x => exact k.plain x, fun x => by cases x with
  | none => simp [eO, PyData.depth]
  | some x => exact k.depth x, fun x y => by
    have aux : ∀ d : PyData, d ≠ .none → PyData.eqv .none d = false ∧ PyData.eqv d .none = false := fun d hd => by cases d <;> simp [PyData.eqv] at hd ⊢
    cases x with
    | none => cases y with
      | none => simp [eO, PyData.eqv]
      | some y => simp [eO, (aux _ (h y)).1]
    | some x => cases y with
      | none => simp [eO, (aux _ (h x)).2]
      | some y => simp [eO, k.eqv x y]⟩
end Pz

namespace Pz
open PySem PySem.Spec PyProof.Rows L2

/-! ### t[::-1] -/
section
variable {prog : Program} {w : World} {A : Around} {E : Value → Shared → Prop} {sh : Shared}
theorem sliceApplied_back {sl : Addr} {vs : Value} {n : Nat} {Q : Int × Int × Nat → Shared → Prop} (isSl : sh.heap.IsSliceOf sl .none .none vs) (back : IsPart vs (some (-1))) (want : Q ((n : Int) - 1, -1, n) sh) :
    wpAny (model prog w) A (Builtin.Slice.sliceApplied (.ref sl) (pure (n : Int))) Q E sh := by
  obtain ⟨ob, hob, hcls, hdat⟩ := isSl
  unfold Builtin.Slice.sliceApplied Builtin.Slice.sliceFields
  refine wpAny_bind (wpAny_bind (wpAny_field hob hdat (x := .none) rfl (wpAny_bind (wpAny_field hob hdat (x := .none) rfl (wpAny_bind (wpAny_field hob hdat (x := vs) rfl (wpAny_pure ?_)))))))
  refine wpAny_bind (HT.slicePart_ back ?_)
  show wpAny _ _ (if ((-1 : Int) == 0) = true then _ else _) _ _ sh
  rw [if_neg (by decide)]
  refine wpAny_bind (slicePart_none (wpAny_bind (slicePart_none (wpAny_bind (wpAny_pure ?_)))))
  show wpAny _ _ (match Builtin.Slice.sliceAdjust none none (-1) (n : Int) with | (x, y) => pure (x, (-1 : Int), Builtin.Slice.slicePlaces x y (-1))) _ _ sh
  show wpAny _ _ (pure ((n : Int) - 1, (-1 : Int), Builtin.Slice.slicePlaces ((n : Int) - 1) (-1) (-1))) _ _ sh
  have e1 : Builtin.Slice.slicePlaces ((n : Int) - 1) (-1) (-1) = n := by
    unfold Builtin.Slice.slicePlaces
    rw [if_neg (by decide)]
    by_cases h : (n : Int) - 1 > -1
    · rw [if_pos h, show (-(-1) : Int) = 1 by decide, Int.ediv_one]; omega
    · rw [if_neg h]; omega
  rw [e1]
  exact wpAny_pure want
theorem fm_cong {α β : Type} {f g : α → Option β} : ∀ {l : List α}, (∀ x ∈ l, f x = g x) → l.filterMap f = l.filterMap g
  | [], _ => rfl
  | x :: l, h => by rw [List.filterMap_cons, List.filterMap_cons, h x List.mem_cons_self, fm_cong fun y hy => h y (List.mem_cons_of_mem _ hy)]
theorem pick_back (xs : Array Value) : ((List.range xs.size).filterMap fun (m : Nat) => xs[(((xs.size : Int) - 1) + (m : Int) * (-1)).toNat]?).toArray = xs.toList.reverse.toArray := by
  have e1 : ((List.range xs.size).filterMap fun (m : Nat) => xs[(((xs.size : Int) - 1) + (m : Int) * (-1)).toNat]?) = ((List.range xs.size).map fun k => xs.size - 1 - k).filterMap (xs[·]?) := by
    rw [List.filterMap_map]
    refine fm_cong fun m hm => ?_
    have := List.mem_range.mp hm
    simp only [Function.comp]
    rw [show (((xs.size : Int) - 1) + (m : Int) * (-1)).toNat = xs.size - 1 - m by omega]
  rw [e1, PySem.W.krv_range, List.filterMap_reverse, PySem.W.krv_all]
theorem getItem_tuple_back {t sl : Addr} {items : Array Value} {vs : Value} {Q : Value → Shared → Prop} (tup : IsTup sh.heap t items) (isSl : sh.heap.IsSliceOf sl .none .none vs) (back : IsPart vs (some (-1))) (small : items.size ≤ sizeLine)
    (want : Q (.ref sh.heap.objs.size) { sh with heap := sh.heap.push { cls := .type "tuple", data := .seq items.toList.reverse.toArray } }) : wpAny (model prog w) A (getItem (.ref t) (.ref sl)) Q E sh := by
  have fits : sizeOk (.seq items.toList.reverse.toArray) := by
    show items.toList.reverse.toArray.size ≤ sizeLine
    rw [List.size_toArray, List.length_reverse, Array.length_toList]; exact small
  obtain ⟨ob, hob, hcls, hdat⟩ := id isSl
  have tySl : sh.TypeIs (.ref sl) "slice" := ⟨ob, hob, hcls⟩
  unfold getItem
  try with_reducible refine wpAny_holding ?_
  first | refine wpAny_bind (wpAny_pure ?_) | skip
  refine wpAny_bind (wpAny_sequenceKey tup.typeIs (by decide) ?_)
  refine wpAny_bind (wpAny_callSpecial?_slot (name := Str.ofString "__getitem__") tup.typeIs PyProof.Rows.slot_tuple_getitem (wpAny_call_entry PyProof.Rows.slot_tuple_getitem tup.typeIs entry_tuple_getitem ?_ (args_tuple_getitem _ _)))
  show wpAny _ _ (Builtin.Tuple.tupleItemsOf (.ref t) >>= _) _ _ sh
  refine wpAny_bind (tupleItemsOf_ tup ?_)
  refine wpAny_bind (wpAny_typeOf tySl ?_)
  rw [if_pos (by decide)]
  refine wpAny_bind (sliceApplied_back isSl back ?_)
  show wpAny _ _ (if (((items.size : Int) - 1) == 0 && (-1 : Int) == 1 && items.size == items.size) = true then _ else _) _ _ sh
  rw [if_neg (by simp), pick_back]
  first
    | exact wpAny_bind (m := Builtin.Tuple.tupleExact _) (wpAny_newObj_type (wpAny_pure ⟨_, rfl, wpAny_pure want⟩) fits)
    | exact wpAny_bind (m := Builtin.Tuple.tupleExact _) (wpAny_newObj_type (wpAny_bind (wpAny_pure (wpAny_pure ⟨_, rfl, wpAny_pure want⟩))) fits)
    | exact wpAny_bind (wpAny_bind (m := Builtin.Tuple.tupleExact _) (wpAny_newObj_type (wpAny_pure (wpAny_pure ⟨_, rfl, wpAny_pure want⟩)) fits))
    | exact wpAny_bind (wpAny_bind (m := Builtin.Tuple.tupleExact _) (wpAny_newObj_type (wpAny_pure ⟨_, rfl, wpAny_pure want⟩) fits))
end
section
variable {X : Cx} {R : Res} {Γ : List Slot} {α β : Type} {ea : α → PyData} {eb : β → PyData}
def tRevT (K : PySem.W.Frag) (te : TE) : TE := fun σ H Q => te σ H fun x H1 => ∃ a ys, x = .ref a ∧ SqT K H1 a ys ∧ ∀ p, H1 p = none → Q (.ref p) (upd H1 p (.tup ys.reverse))
theorem pe_revT {e : Expr} {te : TE} {k : Nat} {p1 p2 p3 pos : Pos} (he : PE X e te) : PE X (.Subscript e (.Slice none none (some (.UnaryOp .USub (.Constant (.int 1) k p1) p2)) p3) pos) (tRevT X.K te) := by
  refine ⟨fun pins s σ H Q I want => ?_⟩
  refine Subscript_ (thn (he.run pins s σ H _ I want) fun v s1 ⟨x, H1, I1, r1, q1⟩ => ?_)
  obtain ⟨a, ys, ex, hx, q⟩ := q1
  subst ex
  cases r1
  have hstep : PO X (some (.UnaryOp .USub (.Constant (.int 1) k p1) p2)) (tPart (tUn (rU fun i => .int (-i)) (tC (.int 1)))) := po_some (pe_un un_neg pe_int)
  refine wpAny_Slice (thn (po_none.run pins s1 σ H1 (fun o H2 => o = none ∧ H2 = H1) I1 ⟨rfl, rfl⟩) fun vl s2 ⟨l, H2, I2, pl, el, e2⟩ => ?_)
  subst el e2
  refine thn (po_none.run pins s2 σ H2 (fun o H3 => o = none ∧ H3 = H2) I2 ⟨rfl, rfl⟩) fun vu s3 ⟨u, H3, I3, pu, eu, e3⟩ => ?_
  subst eu e3
  refine thn (hstep.run pins s3 σ H3 (fun o H4 => o = some (-1) ∧ H4 = H3) I3 ⟨1, rfl, -1, rfl, rfl, rfl⟩) fun vstep s4 ⟨o, H4, I4, ps, eo, e4⟩ => ?_
  subst eo e4
  cases pl
  cases pu
  have I5 : Inv X pins σ H4 { s4 with heap := s4.heap.push { cls := .type "slice", data := .fields #[.none, .none, vstep] } } := I4.kept (t' := s4.toks) fun b ob q => Heap.get?_push_of_some _ q
  obtain ⟨its, r, tup, hz⟩ := I5.tuple hx
  have hlen := r.length
  show wpAny (model X.prog X.w) X.A (subscriptTail e (.Slice none none (some (.UnaryOp .USub (.Constant (.int 1) k p1) p2)) p3) (.ref a) (.ref s4.heap.objs.size)) (EP X pins σ Q) X.xe { s4 with heap := s4.heap.push { cls := .type "slice", data := .fields #[.none, .none, vstep] } }
  refine tail_any (ops := [.ref a, .ref s4.heap.objs.size]) tup.typeIs (PyProof.Rows.slot_tuple_getitem.lookup) ?_ (by with_unfolding_all rfl)
  refine getItem_tuple_back tup (Heap.IsSliceOf.new _ .none .none vstep) ps (by rw [List.size_toArray]; omega) ?_
  refine ⟨.ref _, _, I5.laid (t' := s4.toks) (o := .tup ys.reverse) (fun b ob q => Heap.get?_push_of_some _ q) (Nat.le_refl _) ?_, rfl, q _ (I5.hok.fresh (Nat.le_refl _))⟩
  exact ⟨by rw [List.length_reverse]; exact hz, _, r.reverse, IsTup.new _ _⟩
theorem e_revT {e : Expr} {k : Nat} {p1 p2 p3 pos : Pos} {m : M (List α)} (h : EJ X R Γ e (eT ea) m) : EJ X R Γ (.Subscript e (.Slice none none (some (.UnaryOp .USub (.Constant (.int 1) k p1) p2)) p3) pos) (eT ea) (bindM m fun x => pureM x.reverse) := by
  refine PE.weak (pe_revT h) fun σ H Q ⟨O, H0, ow, st, z, st', rel, ok, e, q⟩ => ?_
  obtain ⟨x, s1, e1, e2⟩ := bind_some e
  obtain ⟨rfl, rfl⟩ := pure_some e2
  refine ⟨O, H0, ow, st, x, s1, rel, ok, e1, fun v H1 k1 o1 rp => ?_⟩
  cases rp with
  | @tup a vs _ na ha hr =>
    refine ⟨a, vs, rfl, SqT.of ha, fun p n => q _ _ (keepS k1 (same_new n)) (o1.same (same_new n)) (.tup ((rel.grow k1 (okZ o1)).ad.fresh n) upd_same ?_)⟩
    rw [List.map_reverse]
    exact hr.reverse.keep (Keep.of_same (same_new n))
theorem f_revL {e : Expr} {k : Nat} {p1 p2 p3 pos : Pos} {m : M (List α)} (h : EJ X R Γ e (eL ea) m) : EF X R Γ (.Subscript e (.Slice none none (some (.UnaryOp .USub (.Constant (.int 1) k p1) p2)) p3) pos) ea (bindM m fun x => pureM x.reverse) := by
  refine PE.weak (pe_revL h) fun σ H Q ⟨O, H0, ow, st, z, st', rel, ok, e, q⟩ => ?_
  obtain ⟨x, s1, e1, e2⟩ := bind_some e
  obtain ⟨rfl, rfl⟩ := pure_some e2
  refine ⟨O, H0, ow, st, x, s1, rel, ok, e1, fun v H1 k1 o1 rp => ?_⟩
  cases rp with
  | @lst a vs _ na ha hr =>
    refine ⟨a, vs, rfl, SqL.of ha, fun p n => q p _ _ (noneK k1 o1 n) (keepS k1 (same_new n)) (o1.same (same_new n)) upd_same ?_⟩
    rw [List.map_reverse]
    exact hr.reverse.at n (Keep.of_same (same_new n))

/-! ### zip -/
theorem zipL_get (xs : List α) (ys : List β) (i : Nat) : (zipL xs ys)[i]? = (xs[i]?.bind fun x => ys[i]?.map fun y => (x, y, ())) := by
  unfold zipL
  rw [List.getElem?_zipWith]
  cases xs[i]? <;> cases ys[i]? <;> rfl
theorem itok_zipL {K : PySem.W.Frag} {A : Av} {H1 : Hp} {p q : Addr} {vs ws : List V} {xs : List α} {ys : List β} (na : ¬ A p) (ha : H1 p = some (.lst vs)) (r : RpAll A H1 vs (xs.map ea)) (nb : ¬ A q) (hb : H1 q = some (.lst ws)) (r2 : RpAll A H1 ws (ys.map eb)) :
    ItOk (Itz K p q) A H1 ((zipL xs ys).map (eP (eC ea (eC eb eU)))) := fun H i k => by
  have hH := k _ _ na ha
  have hH2 := k _ _ nb hb
  have hl := r.length
  have hl2 := r2.length
  rw [List.length_map] at hl hl2
  refine ⟨fun h => ⟨vs, ws, SqL.of hH, SqL.of hH2, ?_⟩, fun d hd => ?_⟩
  · rw [List.length_map] at h
    unfold zipL at h
    rw [List.length_zipWith] at h
    omega
  · rw [List.getElem?_map, zipL_get] at hd
    cases hx : xs[i]? with
    | none => rw [hx] at hd; cases hd
    | some x =>
      cases hy : ys[i]? with
      | none => rw [hx, hy] at hd; cases hd
      | some y =>
        rw [hx, hy] at hd
        obtain ⟨v, hv, rv⟩ := r.get (show (xs.map ea)[i]? = some (ea x) by rw [List.getElem?_map, hx]; rfl)
        obtain ⟨v2, hv2, rv2⟩ := r2.get (show (ys.map eb)[i]? = some (eb y) by rw [List.getElem?_map, hy]; rfl)
        refine ⟨⟨vs, ws, v, v2, SqL.of hH, SqL.of hH2, hv, hv2⟩, fun w H' yl => ?_⟩
        obtain ⟨T, a', b', rfl, nT, rfl, ha', hb'⟩ := yl
        have e1 := ha' vs (SqL.of hH)
        rw [hv] at e1
        obtain rfl : v = a' := Option.some.inj e1
        have e2 := hb' ws (SqL.of hH2)
        rw [hv2] at e2
        obtain rfl : v2 = b' := Option.some.inj e2
        refine ⟨same_new nT, fun A' h1 h2 => ?_⟩
        have hd' : PyData.tuple [ea x, eb y] = d := Option.some.inj hd
        subst hd'
        exact pair_rp (fun z => h2 T z nT) ((Rp.move (fun b o nb e => ⟨h1 b o nb e, k b o nb e⟩) _ _ rv).keep (Keep.of_same (same_new nT))) ((Rp.move (fun b o nb e => ⟨h1 b o nb e, k b o nb e⟩) _ _ rv2).keep (Keep.of_same (same_new nT))) upd_same
theorem itok_zipT {K : PySem.W.Frag} {A : Av} {H1 : Hp} {p q : Addr} {vs ws : List V} {xs : List α} {ys : List β} (na : ¬ A p) (ha : H1 p = some (.tup vs)) (r : RpAll A H1 vs (xs.map ea)) (nb : ¬ A q) (hb : H1 q = some (.tup ws)) (r2 : RpAll A H1 ws (ys.map eb)) :
    ItOk (RZ.ItzT K p q) A H1 ((zipL xs ys).map (eP (eC ea (eC eb eU)))) := fun H i k => by
  have hH := k _ _ na ha
  have hH2 := k _ _ nb hb
  have hl := r.length
  have hl2 := r2.length
  rw [List.length_map] at hl hl2
  refine ⟨fun h => ⟨vs, ws, SqT.of hH, SqT.of hH2, ?_⟩, fun d hd => ?_⟩
  · rw [List.length_map] at h
    unfold zipL at h
    rw [List.length_zipWith] at h
    omega
  · rw [List.getElem?_map, zipL_get] at hd
    cases hx : xs[i]? with
    | none => rw [hx] at hd; cases hd
    | some x =>
      cases hy : ys[i]? with
      | none => rw [hx, hy] at hd; cases hd
      | some y =>
        rw [hx, hy] at hd
        obtain ⟨v, hv, rv⟩ := r.get (show (xs.map ea)[i]? = some (ea x) by rw [List.getElem?_map, hx]; rfl)
        obtain ⟨v2, hv2, rv2⟩ := r2.get (show (ys.map eb)[i]? = some (eb y) by rw [List.getElem?_map, hy]; rfl)
        refine ⟨⟨vs, ws, v, v2, SqT.of hH, SqT.of hH2, hv, hv2⟩, fun w H' yl => ?_⟩
        obtain ⟨T, a', b', rfl, nT, rfl, ha', hb'⟩ := yl
        have e1 := ha' vs (SqT.of hH)
        rw [hv] at e1
        obtain rfl : v = a' := Option.some.inj e1
        have e2 := hb' ws (SqT.of hH2)
        rw [hv2] at e2
        obtain rfl : v2 = b' := Option.some.inj e2
        refine ⟨same_new nT, fun A' h1 h2 => ?_⟩
        have hd' : PyData.tuple [ea x, eb y] = d := Option.some.inj hd
        subst hd'
        exact pair_rp (fun z => h2 T z nT) ((Rp.move (fun b o nb e => ⟨h1 b o nb e, k b o nb e⟩) _ _ rv).keep (Keep.of_same (same_new nT))) ((Rp.move (fun b o nb e => ⟨h1 b o nb e, k b o nb e⟩) _ _ rv2).keep (Keep.of_same (same_new nT))) upd_same
theorem i_zipLL {a b : Expr} {pos : Pos} {elts : List Expr} {k : Nat} {tpos p : Pos} {ma : M (List α)} {mb : M (List β)} (hm : X.mg "zip" = none) (ha : EJ X R Γ a (eL ea) ma) (hb : EJ X R Γ b (eL eb) mb) (hg : Gl X "zip" := by rfl)
    (hs : starEach [a, b] X.env = (false, eval a X.env) :: starEach [b] X.env := by rfl) (hs2 : starEach [b] X.env = (false, eval b X.env) :: starEach [] X.env := by rfl) :
    IJ X R Γ (.Call (.Name "zip" p) [a, b] [] pos) (.Tuple elts k tpos) (eP (eC ea (eC eb eU))) (bindM ma fun x => bindM mb fun y => pureM (zipL x y)) := by
  refine PI.weak (PI.fits (pi_zip hg hm (pa_cons ha (pa_cons hb pa_nil hs2) hs) hs (by rw [hs2]; rfl))) fun σ H Rr ⟨O, H0, ow, st, z, st', rel, ok, e, q⟩ => ?_
  obtain ⟨x, s1, e1, e2⟩ := bind_some e
  obtain ⟨y, s2, e3, e4⟩ := bind_some e2
  obtain ⟨rfl, rfl⟩ := pure_some e4
  refine ⟨O, H0, ow, st, x, s1, rel, ok, e1, fun v H1 k1 o1 rp => ?_⟩
  have rel1 := rel.grow k1 (okZ o1)
  refine ⟨O, H0, ow, s1, y, s2, rel1, o1, e3, fun v2 H2 k2 o2 rp2 => ?_⟩
  have rpk := rp.keep (rel1.keepA k2)
  cases rpk with
  | @lst p0 vs _ na h0 ra =>
    cases rp2 with
    | @lst p1 ws _ nb h1 rb =>
      exact ⟨p0, p1, vs, ws, rfl, SqL.of h0, SqL.of h1, fun fit => q _ H2 (k1.trans k2) o2 (by have := fit p0 vs (.inl h0); rw [ra.length, List.length_map] at this; simp [zipL]; omega) (itok_zipL na h0 ra nb h1 rb)⟩
theorem i_zipTT {a b : Expr} {pos : Pos} {elts : List Expr} {k : Nat} {tpos p : Pos} {ma : M (List α)} {mb : M (List β)} (hm : X.mg "zip" = none) (ha : EJ X R Γ a (eT ea) ma) (hb : EJ X R Γ b (eT eb) mb) (hg : Gl X "zip" := by rfl)
    (hs : starEach [a, b] X.env = (false, eval a X.env) :: starEach [b] X.env := by rfl) (hs2 : starEach [b] X.env = (false, eval b X.env) :: starEach [] X.env := by rfl) :
    IJ X R Γ (.Call (.Name "zip" p) [a, b] [] pos) (.Tuple elts k tpos) (eP (eC ea (eC eb eU))) (bindM ma fun x => bindM mb fun y => pureM (zipL x y)) := by
  refine PI.weak (PI.fits (RZ.pi_zipA hg hm (pa_cons ha (pa_cons hb pa_nil hs2) hs) hs (by rw [hs2]; rfl))) fun σ H Rr ⟨O, H0, ow, st, z, st', rel, ok, e, q⟩ => ?_
  obtain ⟨x, s1, e1, e2⟩ := bind_some e
  obtain ⟨y, s2, e3, e4⟩ := bind_some e2
  obtain ⟨rfl, rfl⟩ := pure_some e4
  refine ⟨O, H0, ow, st, x, s1, rel, ok, e1, fun v H1 k1 o1 rp => ?_⟩
  have rel1 := rel.grow k1 (okZ o1)
  refine ⟨O, H0, ow, s1, y, s2, rel1, o1, e3, fun v2 H2 k2 o2 rp2 => ?_⟩
  have rpk := rp.keep (rel1.keepA k2)
  cases rpk with
  | @tup p0 vs _ na h0 ra =>
    cases rp2 with
    | @tup p1 ws _ nb h1 rb =>
      exact ⟨p0, p1, vs, ws, rfl, .inr ⟨SqT.of h0, SqT.of h1, fun fit => q _ H2 (k1.trans k2) o2 (by have := fit p0 vs (.inr h0); rw [ra.length, List.length_map] at this; simp [zipL]; omega) (itok_zipT na h0 ra nb h1 rb)⟩⟩
end
end Pz

namespace Lw
open PySem PySem.Spec PyProof.Rows L2 Pz
def topS (i : Nat) : Stmt := PySem.Challenge.pw_lotsoflots_k85_free_papers_judged.main.body.getD i (.Pass ⟨0, 0, 0, 0⟩)
abbrev sSource : Stmt := topS 14
abbrev sPick : Stmt := topS 15
theorem scPick : FnScope ["source", "most", "cells", "others", "lap", "stirred"] ["source", "most"] (defScope sPick) := ⟨rfl, rfl, rfl, by decide +kernel, rfl, by decide +kernel, by decide +kernel⟩
section
variable {P : Program} {w : World} {K : PySem.W.Frag} {mg : Str → Option Value} {base : Heap}
theorem ok_pick {f : Addr} {fd : FuncData} (F : Fun K "_law_pick" "_law_pick" sPick f fd) (mlen : mg "len" = none) (mint : mg "int" = none) :
    FnG P w K mg base 1 f fd ["source", "most"] (SpM (fun p : Int × Unit => [.src, .fz (eInt p.1)]) eInt (fun p => pickM p.1)) := by
  refine g_def F scPick (fun vs H Q E ⟨R, O, a, st, r, st', _, _, _, h, _⟩ => by rw [h.length]; rfl) (fun cdv A above s H vs Q E hG hr h => ?_)
  obtain ⟨R, O, ⟨most, u⟩, st, r, st', hz, hd, ok, hl, e, q⟩ := h
  have hu := hu_of hr
  cases hl with
  | cons h1 h2 =>
  cases h2 with
  | cons h2 h3 =>
  cases h3
  obtain ⟨a, c, rfl, rfl⟩ := h1
  cases (show Rp O H _ (.int most) from h2)
  have nac : a ≠ c := (show SrcAt a c st H from ok).ne
  have done : ∀ z v H', pickM most st = some (z, v) → okR (some (a, c)) v H' → Keep (Zr (some (a, c))) H H' → Q (.int z) H' := fun z v H' e1 o1 k1 => by
    have e2 : some (z, v) = some (r, st') := e1.symm.trans e
    cases e2
    exact q _ H' k1 o1 (.int _)
  refine ⟨_, pss_cons (ps_if (pt_cmpR op_lt (pv 1) pe_int (nomark _)) (pss_one (ps_ret pe_int)) pss_nil)
    (pss_cons (ps_set (i := 2) scPick.nd rfl (.inl rfl) (pe_dget hu (pv 0) pe_str (fun _ _ => rfl)))
    (pss_cons (ps_while PassesOwn.never (PW.pt (pw_and (pt_cmpR op_lt (pe_dget hu (pv 0) pe_str (fun _ _ => rfl)) pe_int (nomark _)) (pw_and1 (pt_cmpR op_gt (pe_callB call_len_seq (by rfl) mlen PySem.boot_len (pa_cons (pv 2) pa_nil)) pe_int (nomark _)))))
      (pss_one (ps_dput hu (pv 0) pe_str (pe_bm0 PySem.F.plainAttrs_list PySem.F.slot_list_pop PySem.F.type_list_pop mt_pop (pv 2)) rfl)))
    (PSs.weak (t' := if 2 ≤ most ∧ most < 1073741824 then tDrawn a c most st H Q else fun _ _ _ => False) (pss_cons (ps_set (i := 3) scPick.nd rfl (.inl rfl) (pe_dget hu (pv 0) pe_str (fun _ _ => rfl)))
    (pss_cons (ps_if (pt_cmpR op_gt (pv 3) pe_int (nomark _)) (pss_cons (ps_dput hu (pv 0) pe_str (pe_op op_fdivN (pv 3) (pv 1)) rfl)
        (pss_one (ps_ret (pe_op op_modN (pe_callTy call_int1 (by rfl) mint (by decide +kernel) (pa_cons (pv 3) pa_nil)) (pv 1))))) pss_nil)
    (pss_cons (ps_dput hu (pv 0) pe_str (pe_op op_add (pe_dget hu (pv 0) pe_str (fun _ _ => rfl)) pe_int) rfl)
    (pss_cons (ps_set (i := 4) scPick.nd rfl (.inl rfl) (pe_dget hu (pv 0) pe_str (fun _ _ => rfl)))
    (pss_cons (ps_set (i := 5) scPick.nd rfl (.inl rfl) (pe_op op_modN (pe_callTy call_int1 (by rfl) mint (by decide +kernel) (pa_cons (pe_op op_add (pe_dget hu (pv 0) pe_str (fun _ _ => rfl)) (pe_op op_mul (pv 4) pe_int)) pa_nil)) pe_int))
    (pss_cons (ps_set (i := 5) scPick.nd rfl (.inl rfl) (pe_op op_modN (pe_callTy call_int1 (by rfl) mint (by decide +kernel) (pa_cons (pe_op op_add (pe_op op_mul (pv 5) (pv 5)) (pe_op op_mul (pv 4) pe_int)) pa_nil)) pe_int))
    (pss_one (ps_ret (pe_op op_modN (pe_callTy call_int1 (by rfl) mint (by decide +kernel) (pa_cons (pe_op op_fdivN (pv 5) pe_int) pa_nil)) (pv 1)))))))))) (fun D σ H' hT => ?tail)))), ?_⟩
  case tail =>
    by_cases hm : 2 ≤ most ∧ most < 1073741824
    · rw [if_pos hm] at hT
      obtain ⟨cs, l, rfl, hS, hC, hdr, kH, back⟩ := hT
      have hp : pickM most st = (if 1 < l then some (l.fmod most, ⟨cs, l.fdiv most, st.mixed, st.turn⟩) else
          some (((((((st.mixed + (st.turn + 1) * 104729).fmod 998244353) * ((st.mixed + (st.turn + 1) * 104729).fmod 998244353) + (st.turn + 1) * 17).fmod 2147483647).fdiv 16).fmod most), ⟨cs, l, st.mixed, st.turn + 1⟩)) := by
        unfold pickM
        rw [if_neg (by omega), if_neg (by omega), hdr]
      have kA : ∀ (H1 : Hp) (o : HO), Keep (Zr (some (a, c))) H H1 → Keep (Zr (some (a, c))) H (upd H1 a o) := fun H1 o k b u n e => by rw [upd_ne (fun z => n (.inl z))]; exact k b u n e
      refine ⟨_, rfl, a, .int l, rfl, DGet.k (k := .inr "left") hS, ?_⟩
      refine ⟨_, rfl, _, _, rfl, rfl, _, rfl, ?_⟩
      by_cases h1 : 1 < l
      · rw [decide_eq_true h1]
        rw [if_pos h1] at hp
        refine iteT ⟨_, rfl, _, rfl, _, _, rfl, rfl, ⟨by omega, by omega⟩, _, rfl, a, _, rfl, DPut.k (k := .inr "left") hS (srcKv_few _ _ _ _), ?_⟩
        refine ⟨_, rfl, .inl ⟨_, rfl, _, rfl, _, _, rfl, rfl, by omega, back _ _ (done _ _ _ hp ?_ (kA _ _ kH))⟩⟩
        show SrcAt a c _ _
        exact ⟨by rw [upd_same]; rfl, by rw [upd_ne nac.symm]; exact hC, nac⟩
      · rw [decide_eq_false h1]
        rw [if_neg h1] at hp
        refine iteF ⟨_, rfl, a, _, rfl, DGet.k (k := .inr "turn") hS, _, _, rfl, rfl, _, rfl, a, _, rfl, DPut.k (k := .inr "turn") hS (srcKv_few _ _ _ _), ?_⟩
        have hS2 : (upd H' a (.dK (putK (srcKv c l st.mixed st.turn) (.inr "turn") (.int (st.turn + 1))))) a = some (.dK (srcKv c l st.mixed (st.turn + 1))) := by rw [upd_same]; rfl
        refine ⟨_, rfl, a, _, rfl, DGet.k (k := .inr "turn") hS2, ?_⟩
        refine ⟨_, rfl, a, _, rfl, DGet.k (k := .inr "mixed") hS2, _, rfl, _, _, rfl, rfl, .inr ⟨by decide, by decide⟩, _, _, rfl, rfl, .inl ⟨_, rfl, _, _, rfl, rfl, (by decide : (998244353 : Int) ≠ 0), ?_⟩⟩
        have b1 := Int.fmod_nonneg_of_pos (st.mixed + (st.turn + 1) * 104729) (b := 998244353) (by decide)
        have b2 := Int.fmod_lt_of_pos (st.mixed + (st.turn + 1) * 104729) (b := 998244353) (by decide)
        refine ⟨_, rfl, _, rfl, _, _, rfl, rfl, .inl ⟨by omega, by omega⟩, _, rfl, _, _, rfl, rfl, .inr ⟨by decide, by decide⟩, _, _, rfl, rfl, .inl ⟨_, rfl, _, _, rfl, rfl, (by decide : (2147483647 : Int) ≠ 0), ?_⟩⟩
        refine ⟨_, rfl, _, _, rfl, rfl, ⟨by decide, by decide⟩, .inl ⟨_, rfl, _, rfl, _, _, rfl, rfl, by omega, back _ _ (done _ _ _ hp ?_ (kA _ _ kH))⟩⟩
        show SrcAt a c _ _
        exact ⟨hS2, by rw [upd_ne nac.symm]; exact hC, nac⟩
    · rw [if_neg hm] at hT
      exact hT.elim
  have S0 : SrcAt a c st H := ok
  -- if most < 2
  refine ⟨_, rfl, _, _, rfl, rfl, _, rfl, ?_⟩
  by_cases h2 : most < 2
  · rw [decide_eq_true h2]
    exact iteT (done 0 st H (by unfold pickM; rw [if_pos h2]) ok (Keep.refl H))
  have hm : 2 ≤ most ∧ most < 1073741824 := by
    refine ⟨by omega, ?_⟩
    have e' : pickM most st = some (r, st') := e
    unfold pickM at e'
    rw [if_neg h2] at e'
    by_cases h3 : 1073741824 ≤ most
    · rw [if_pos h3] at e'; cases e'
    · omega
  rw [decide_eq_false h2]
  refine iteF ?_
  refine ⟨_, rfl, a, .ref c, rfl, DGet.k (k := .inr "cells") S0.dic, ?_⟩
  -- the loop
  have kA : ∀ (H1 : Hp) (o : HO), Keep (Zr (some (a, c))) H H1 → Keep (Zr (some (a, c))) H (upd H1 a o) := fun H1 o k b u n e => by rw [upd_ne (fun z => n (.inl z))]; exact k b u n e
  have kC : ∀ (H1 : Hp) (o : HO), Keep (Zr (some (a, c))) H H1 → Keep (Zr (some (a, c))) H (upd H1 c o) := fun H1 o k b u n e => by rw [upd_ne (fun z => n (.inr z))]; exact k b u n e
  refine ⟨fun m σ' H' => ∃ cs l, m = cs.length ∧ σ' = [some (.ref a), some (.int most), some (.ref c), none, none, none] ∧ H' a = some (.dK (srcKv c l st.mixed st.turn)) ∧ H' c = some (.lst (cs.map V.int)) ∧ drawC cs.length cs l = drawC st.cells.length st.cells st.left ∧ Keep (Zr (some (a, c))) H H',
    ⟨_, st.cells, st.left, rfl, rfl, S0.dic, S0.cel, rfl, Keep.refl H⟩, ?_⟩
  rintro m σ' H' ⟨cs, l, rfl, rfl, hS, hC, hdr, kH⟩
  refine ⟨_, rfl, a, .int l, rfl, DGet.k (k := .inr "left") hS, _, _, rfl, rfl, _, rfl, ?_⟩
  by_cases hl : l < 2
  · rw [decide_eq_true hl]
    refine iteT ⟨_, rfl, c, _, rfl, .inl (SqL.of hC), _, _, rfl, rfl, _, rfl, ?_⟩
    rcases List.eq_nil_or_concat cs with rfl | ⟨ini, y, rfl⟩
    · refine iteF ?_
      rw [if_pos hm]
      exact ⟨[], l, rfl, hS, hC, by rw [← hdr]; exact drawC_nil _ _, kH, fun _ _ q => q⟩
    · rw [List.concat_eq_append] at *
      rw [show decide ((0 : Int) < (((ini ++ [y]).map V.int).length : Int)) = true from decide_eq_true (by simp)]
      refine iteT ⟨fun σ2 H2 => σ2 = [some (.ref a), some (.int most), some (.ref c), none, none, none] ∧ H2 a = some (.dK (srcKv c y st.mixed st.turn)) ∧ H2 c = some (.lst (ini.map V.int)) ∧ drawC ini.length ini y = drawC st.cells.length st.cells st.left ∧ Keep (Zr (some (a, c))) H H2, ?_, ?_⟩
      · rintro σ2 H2 ⟨rfl, g1, g2, g3, g4⟩
        exact ⟨ini.length, by simp, ini, y, rfl, rfl, g1, g2, g3, g4⟩
      · refine ⟨_, rfl, tyL hC, c, _, .int y, rfl, rfl, hC, by simp, _, rfl, a, _, rfl, DPut.k (k := .inr "left") (by rw [upd_ne nac]; exact hS) (srcKv_few _ _ _ _), rfl, ?_, ?_, ?_, ?_⟩
        · rw [upd_same]; rfl
        · rw [upd_ne nac.symm, upd_same]; simp
        · rw [← hdr, drawC_snoc _ _ _ hl]
        · exact kA _ _ (kC _ _ kH)
  · rw [decide_eq_false hl]
    refine iteF (iteF ?_)
    rw [if_pos hm]
    exact ⟨cs, l, rfl, hS, hC, by rw [← hdr]; exact drawC_stop _ _ _ hl, kH, fun _ _ q => q⟩
end
end Lw

namespace Lw
open PySem PySem.Spec PyProof.Rows L2 Pz
theorem scSource : FnScope ["script", "stirred", "cell", "cells"] ["script"] (defScope sSource) := ⟨rfl, rfl, rfl, by decide +kernel, rfl, by decide +kernel, by decide +kernel⟩
section
variable {P : Program} {w : World} {K : PySem.W.Frag} {mg : Str → Option Value} {base : Heap}
theorem ok_source {f : Addr} {fd : FuncData} (F : Fun K "_law_source" "_law_source" sSource f fd) (mabs : mg "abs" = none) (mint : mg "int" = none) :
    FnG P w K mg base 1 f fd ["script"] (spSource K) := by
  refine g_def F scSource (fun vs H Q E ⟨a, ns, e, _⟩ => by rw [e]; rfl) (fun cdv A above s H vs Q E hG hr h => ?_)
  obtain ⟨a, ns, rfl, hS, hlen, q⟩ := h
  refine ⟨_, pss_cons (ps_set (i := 1) scSource.nd rfl (.inl rfl) pe_int)
    (pss_cons (ps_for PassesOwn.never rfl (pi_list (pv 0)) (pg_name (i := 2) scSource.nd rfl (.inl rfl)) (pss_one (ps_set (i := 1) scSource.nd rfl (.inl rfl)
      (pe_op op_modN (pe_callTy call_int1 (by rfl) mint (by decide +kernel) (pa_cons (pe_op op_add (pe_op op_add (pe_op op_mul (pv 1) pe_int) (pe_op op_mul (pv 2) pe_int)) pe_int) pa_nil)) pe_int))))
    (pss_cons (ps_setLc (i := 3) (own := [("cell", 2)]) (g := gName 2) (tt := tYes) rfl scSource.nd rfl rfl (sw_true rfl rfl rfl (by decide +kernel)) (pi_list (pv 0)) (blkOk_by (N := ["script", "stirred", "cell", "cells"]) (sc := defScope sSource) (by decide +kernel)) (fun _ _ _ _ _ => pg_name (i := 2) scSource.nd rfl (Or.inl rfl)) (fun _ _ _ _ _ => pts_nil)
      (fun _ _ _ _ _ => pe_callB call_abs (by rfl) mabs (by decide +kernel) (pa_cons (pv 2) pa_nil)))
    (pss_one (ps_ret (pe_disp (pps_cons pe_str (pe_revL (pv 3)) (pps_cons pe_str pe_int (pps_cons pe_str (pv 1) (pps_cons pe_str pe_int pps_nil)))) (by rfl) (by rfl) (fun z => by cases z) (by decide)))))), ?_⟩
  refine ⟨_, rfl, a, rfl, ⟨_, hS⟩, for_list (xs := ns.map V.int) (fun i σ' H' => H' = H ∧ ∃ z y, σ' = [some (.ref a), some (.int z), y, none]) ⟨rfl, 11, none, rfl⟩ (fun i σ' H' _ h => by rw [h.1]; exact hS) ?_ ?_⟩
  · rintro i x σ' H' hx ⟨rfl, z, y, rfl⟩
    obtain ⟨n, _, rfl⟩ : ∃ n, ns[i]? = some n ∧ V.int n = x := by simpa using hx
    exact ⟨_, rfl, _, _, rfl, rfl, .inr ⟨by decide, by decide⟩, _, rfl, _, _, rfl, rfl, .inr ⟨by decide, by decide⟩, _, _, rfl, rfl, _, _, rfl, rfl, .inl ⟨_, rfl, _, _, rfl, rfl, (by decide : (2147483629 : Int) ≠ 0), rfl, _, _, rfl⟩⟩
  · rintro σ' H' ⟨rfl, z, y, rfl⟩
    refine ⟨_, rfl, a, rfl, ⟨_, hS⟩, fun D hD => lc_list (K := K) (a := a) (xs := ns.map V.int) (fun i H2 => Same H' H2 ∧ ∃ acc : List Int, H2 D = some (.lst (acc.map V.int)) ∧ acc.length = i) ⟨same_new hD, [], upd_same, rfl⟩ (fun i H2 _ h => h.1.seq hS) ?_ ?_⟩
    · rintro i x H2 hx ⟨sm, acc, hacc, rfl⟩
      obtain ⟨n, hn, rfl⟩ : ∃ n, ns[acc.length]? = some n ∧ V.int n = x := by simpa using hx
      have hi := (List.getElem?_eq_some_iff.mp hn).1
      refine ⟨rfl, ?_⟩
      show tYes _ H2 _
      unfold tYes
      refine iteT ?_
      refine ⟨_, rfl, n, rfl, _, hacc, by rw [List.length_map]; exact Nat.lt_of_lt_of_le hi (Nat.le_trans hlen (by decide)), fun b o e => ?_, acc ++ [if n < 0 then -n else n], ?_, by simp⟩
      · rw [upd_ne (ne_of_none e hD)]; exact sm b o e
      · rw [upd_same]; simp
    · rintro H2 ⟨sm, acc, hacc, _⟩
      intro p np
      have npD : D ≠ p := ne_of_none hacc np
      refine ⟨_, rfl, D, _, rfl, .inl (.inl (by rw [upd_ne npD]; exact hacc)), fun c nc => ?_⟩
      have ncp : c ≠ p := fun z => by rw [z, upd_same] at nc; cases nc
      have ncD : c ≠ D := fun z => by rw [z, upd_ne npD, hacc] at nc; cases nc
      have hc0 : H2 c = none := by rw [upd_ne ncp] at nc; exact nc
      refine ⟨.int z, rfl, by rw [upd_ne ncp.symm, upd_same], srcKv c 1 z 0, rfl, (by show 4 ≤ 15; decide), ?_⟩
      have back : ∀ (x : Addr), H2 x = none → H' x = none := fun x n => by
        cases e : H' x with
        | none => rfl
        | some o => rw [sm x o e] at n; cases n
      refine q p c ⟨acc.reverse, 1, z, 0⟩ _ (back p np) (back c hc0) ⟨by rw [upd_same]; rfl, by rw [upd_ne ncp, upd_same, List.map_reverse], ncp.symm⟩ fun b o e => ?_
      have e2 := sm b o e
      rw [upd_ne (ne_of_none e2 np), upd_ne (ne_of_none e2 hc0), upd_ne (ne_of_none e2 np)]
      exact e2
end
end Lw

namespace Lw
open PySem PySem.Spec PyProof.Rows L2 Pz
abbrev sOf : Stmt := topS 16
theorem scOf : FnScope ["source", "some"] ["source", "some"] (defScope sOf) := ⟨rfl, rfl, rfl, by decide +kernel, rfl, by decide +kernel, by decide +kernel⟩
section
variable {P : Program} {w : World} {K : PySem.W.Frag} {mg : Str → Option Value} {base : Heap}
theorem ok_of {f : Addr} {fd : FuncData} (F : Fun K "_law_of" "_law_of" sOf f fd) (B : Bl mg) {g : Addr} {gd : FuncData} (C : Cal K mg "_law_pick" g gd ["source", "most"])
    (G : FnG P w K mg base 1 g gd ["source", "most"] (SpM (fun p : Int × Unit => [.src, .fz (eInt p.1)]) eInt (fun p => pickM p.1))) : OfG P w K mg base f fd := by
  constructor
  · intro α ea
    refine g_ok F scOf (fun p : List α × Unit => [.src, .fz (eL ea p.1)]) ea (fun p => ofM p.1) (fun p => [.src, .fz (eL ea p.1)]) (fun _ => rfl) (fun _ => rfl) ?_
    intro cdv A above s H E R p hG hr
    exact s_ret0 (e_ixL (e_var 1 (eL ea) p.1) (e_cs1 0 (G.mono (by decide)) hG hr C.mg C.kp C.bd (e_len B.b_len bt_len (e_var 1 (eL ea) p.1))))
  · intro α ea
    refine g_ok F scOf (fun p : List α × Unit => [.src, .fz (eT ea p.1)]) ea (fun p => ofM p.1) (fun p => [.src, .fz (eT ea p.1)]) (fun _ => rfl) (fun _ => rfl) ?_
    intro cdv A above s H E R p hG hr
    exact s_ret0 (e_ixT (e_var 1 (eT ea) p.1) (e_cs1 0 (G.mono (by decide)) hG hr C.mg C.kp C.bd (e_lenT B.b_len bt_len (e_var 1 (eT ea) p.1))))
end
end Lw


namespace Lw
open PySem PySem.Spec PyProof.Rows L2 Pz
abbrev m__law_pick := pickM
section
variable {P : Program} {w : World} {K : PySem.W.Frag} {mg : Str → Option Value} {base : Heap}

abbrev s_is_whole_number : Stmt := topS 1
def N_is_whole_number : List Str := ["value"]
theorem sc_is_whole_number : FnScope N_is_whole_number ["value"] (defScope s_is_whole_number) := ⟨rfl, rfl, rfl, by decide +kernel, rfl, by decide +kernel, by decide +kernel⟩
def m_is_whole_number (v_value : PyData) : M Bool := (Pz.bindM (Pz.bindM (pureM v_value) fun (x1 : PyData) => pureM (isTy "int" (eD x1))) fun (x4 : Bool) => if x4 then (Pz.bindM (Pz.bindM (pureM v_value) fun (x2 : PyData) => pureM (isTy "bool" (eD x2))) fun (x3 : Bool) => pureM (!x3)) else pureM false)
theorem ok_is_whole_number {f : Addr} {fd : FuncData} (F : Fun K "is_whole_number" "is_whole_number" s_is_whole_number f fd) (B : Bl mg) :
    FnG P w K mg base 1 f fd ["value"] (SpM (fun p : PyData × Unit => [.fz (eD p.1)]) eBool (fun p : PyData × Unit => m_is_whole_number p.1)) := by
  refine g_ok F sc_is_whole_number (fun p : PyData × Unit => [.fz (eD p.1)]) eBool (fun p : PyData × Unit => m_is_whole_number p.1) (fun p => [.fz (eD p.1)]) (fun _ => rfl) (fun _ => rfl) ?_
  intro cdv A above s H E R p hG hr
  obtain ⟨v_value, uu⟩ := p
  have sc := sc_is_whole_number
  exact (s_ret0 (e_and (e_isi (ea := eD) (fun K d => kit_int d) B.b_isinstance B.b_int bt_int (e_var 0 eD v_value)) (e_one1 (e_not (e_isi (ea := eD) (fun K d => kit_bool d) B.b_isinstance B.b_bool bt_bool (e_var 0 eD v_value))))))

abbrev s_sums_to : Stmt := topS 3
def N_sums_to : List Str := ["many", "found", "a", "b"]
theorem sc_sums_to : FnScope N_sums_to ["many"] (defScope s_sums_to) := ⟨rfl, rfl, rfl, by decide +kernel, rfl, by decide +kernel, by decide +kernel⟩
def m_sums_to (v_many : Int) : M (List (List Int)) := (Pz.bindM (smallM (pureM ([] : List (List Int)))) fun (r1 : (List (List Int))) => (Pz.bindM (Pz.bindM (Pz.bindM (pureM (1 : Int)) fun (x4 : Int) => (Pz.bindM (Pz.bindM (pureM v_many) fun (x2 : Int) => (Pz.bindM (pureM (1 : Int)) fun (x3 : Int) => pureM (x2 + x3))) fun (x5 : Int) => rangeM x4 x5)) fun (x26 : (List Int)) => forM' (fun (b7 : ((List (List Int)))) (y6 : Int) => (Pz.bindM (Pz.bindM (Pz.bindM (Pz.bindM (pureM y6) fun (x13 : Int) => (Pz.bindM (Pz.bindM (Pz.bindM (pureM v_many) fun (x9 : Int) => (Pz.bindM (pureM y6) fun (x10 : Int) => pureM (x9 - x10))) fun (x11 : Int) => (Pz.bindM (pureM (1 : Int)) fun (x12 : Int) => pureM (x11 + x12))) fun (x14 : Int) => rangeM x13 x14)) fun (x24 : (List Int)) => compM (fun (y15 : Int) => (pureM true)) (fun (y15 : Int) => (smallM (Pz.bindM (pureM y6) fun (x22 : Int) => (Pz.bindM (Pz.bindM (pureM y15) fun (x20 : Int) => (Pz.bindM (Pz.bindM (Pz.bindM (pureM y6) fun (x16 : Int) => (Pz.bindM (pureM y15) fun (x17 : Int) => pureM (x16 + x17))) fun (x18 : Int) => (Pz.bindM (pureM ([] : List Int)) fun (x19 : (List Int)) => pureM (x18 :: x19))) fun (x21 : (List Int)) => pureM (x20 :: x21))) fun (x23 : (List Int)) => pureM (x22 :: x23))))) x24) fun (x25 : (List (List Int))) => extM b7 x25) fun (r8 : (List (List Int))) => (pureM r8))) x26 r1) fun (r27 : ((List (List Int)))) => (pureM r27)))
theorem ok_sums_to {f : Addr} {fd : FuncData} (F : Fun K "sums_to" "sums_to" s_sums_to f fd) (B : Bl mg) :
    FnG P w K mg base 1 f fd ["many"] (SpM (fun p : Int × Unit => [.fz (eInt p.1)]) (eL (eT eInt)) (fun p : Int × Unit => m_sums_to p.1)) := by
  refine g_ok F sc_sums_to (fun p : Int × Unit => [.fz (eInt p.1)]) (eL (eT eInt)) (fun p : Int × Unit => m_sums_to p.1) (fun p => [.fz (eInt p.1), .un, .un, .un]) (fun _ => rfl) (fun _ => rfl) ?_
  intro cdv A above s H E R p hG hr
  obtain ⟨v_many, uu⟩ := p
  have sc := sc_sums_to
  exact (s_step (Γ1 := fun (r1 : (List (List Int))) => [.fz (eInt v_many), .ow ((eL (eT eInt)) r1), .un, .un]) (q_setF 1 (f_list l_nil) sc.nd) (fun (r1 : (List (List Int))) => (s_step (Γ1 := (fun (b : ((List (List Int)))) => [.fz (eInt v_many), .ow ((eL (eT eInt)) b), .un, .un])) (q_for (set := (st1 2 eInt)) (is := [2]) (fun (b : ((List (List Int)))) => [.fz (eInt v_many), .ow ((eL (eT eInt)) b), .un, .un]) r1 (fun (b7 : ((List (List Int)))) (y6 : Int) => (Pz.bindM (Pz.bindM (Pz.bindM (Pz.bindM (pureM y6) fun (x13 : Int) => (Pz.bindM (Pz.bindM (Pz.bindM (pureM v_many) fun (x9 : Int) => (Pz.bindM (pureM y6) fun (x10 : Int) => pureM (x9 - x10))) fun (x11 : Int) => (Pz.bindM (pureM (1 : Int)) fun (x12 : Int) => pureM (x11 + x12))) fun (x14 : Int) => rangeM x13 x14)) fun (x24 : (List Int)) => compM (fun (y15 : Int) => (pureM true)) (fun (y15 : Int) => (smallM (Pz.bindM (pureM y6) fun (x22 : Int) => (Pz.bindM (Pz.bindM (pureM y15) fun (x20 : Int) => (Pz.bindM (Pz.bindM (Pz.bindM (pureM y6) fun (x16 : Int) => (Pz.bindM (pureM y15) fun (x17 : Int) => pureM (x16 + x17))) fun (x18 : Int) => (Pz.bindM (pureM ([] : List Int)) fun (x19 : (List Int)) => pureM (x18 :: x19))) fun (x21 : (List Int)) => pureM (x20 :: x21))) fun (x23 : (List Int)) => pureM (x22 :: x23))))) x24) fun (x25 : (List (List Int))) => extM b7 x25) fun (r8 : (List (List Int))) => (pureM r8))) PassesOwn.never rfl (i_range2 B.b_range e_int (e_add (e_var 0 eInt v_many) e_int)) (g1 2 eInt sc.nd) noow1 (.eq (.eq (.un (.un .nil)))) (fun (b7 : ((List (List Int)))) (y6 : Int) => (s_step (Γ1 := fun (r8 : (List (List Int))) => [.fz (eInt v_many), .ow ((eL (eT eInt)) r8), .fz (eInt y6), .un]) (q_ext 1 b7 (f_e (f_lc (set := (st1 3 eInt)) (is := [3]) [("b", 3)] (fun (y15 : Int) => (pureM true)) (fun (y15 : Int) => (smallM (Pz.bindM (pureM y6) fun (x22 : Int) => (Pz.bindM (Pz.bindM (pureM y15) fun (x20 : Int) => (Pz.bindM (Pz.bindM (Pz.bindM (pureM y6) fun (x16 : Int) => (Pz.bindM (pureM y15) fun (x17 : Int) => pureM (x16 + x17))) fun (x18 : Int) => (Pz.bindM (pureM ([] : List Int)) fun (x19 : (List Int)) => pureM (x18 :: x19))) fun (x21 : (List Int)) => pureM (x20 :: x21))) fun (x23 : (List Int)) => pureM (x22 :: x23))))) rfl sc.nd (i_range2 B.b_range (e_var 2 eInt y6) (e_add (e_sub (e_var 0 eInt v_many) (e_var 2 eInt y6)) e_int)) (blkOk_by (N := N_sums_to) (sc := (defScope s_sums_to)) (by decide +kernel)) (fun _ _ _ _ _ => (g1 3 eInt sc.nd)) (fun _ _ _ _ _ (y15 : Int) => c_nil) (fun _ _ _ _ _ (y15 : Int) => (e_tupl (l_cons (e_var 2 eInt y6) (l_cons (e_var 3 eInt y15) (l_cons (e_add (e_var 2 eInt y6) (e_var 3 eInt y15)) l_nil))))) noow1 sm1 (fun _ h => h) (noOw rfl)))) (fun (r8 : (List (List Int))) => (s_nilN (Γb := (fun (b : ((List (List Int)))) => [.fz (eInt v_many), .ow ((eL (eT eInt)) b), .un, .un])) r8 (.eq (.eq (.un (.un .nil))))))))) (fun (r27 : ((List (List Int)))) => (s_low (Γ' := [.fz (eInt v_many), .fz ((eL (eT eInt)) r27), .un, .un]) (.eq (.fr (.un (.un .nil)))) (s_ret0 (e_var 1 (eL (eT eInt)) r27)))))))

abbrev s_rows_to : Stmt := topS 4
def N_rows_to : List Str := ["length", "many", "found", "a", "d", "i"]
theorem sc_rows_to : FnScope N_rows_to ["length", "many"] (defScope s_rows_to) := ⟨rfl, rfl, rfl, by decide +kernel, rfl, by decide +kernel, by decide +kernel⟩
def m_rows_to (v_length : Int) (v_many : Int) : M (List (List Int)) := (Pz.bindM (smallM (pureM ([] : List (List Int)))) fun (r1 : (List (List Int))) => (Pz.bindM (Pz.bindM (Pz.bindM (pureM (1 : Int)) fun (x4 : Int) => (Pz.bindM (Pz.bindM (pureM v_many) fun (x2 : Int) => (Pz.bindM (pureM (1 : Int)) fun (x3 : Int) => pureM (x2 + x3))) fun (x5 : Int) => rangeM x4 x5)) fun (x32 : (List Int)) => forM' (fun (b7 : ((List (List Int)))) (y6 : Int) => (Pz.bindM (Pz.bindM (Pz.bindM (pureM (1 : Int)) fun (x16 : Int) => (Pz.bindM (Pz.bindM (Pz.bindM (Pz.bindM (pureM v_many) fun (x8 : Int) => (Pz.bindM (pureM y6) fun (x9 : Int) => pureM (x8 - x9))) fun (x12 : Int) => (Pz.bindM (Pz.bindM (pureM v_length) fun (x10 : Int) => (Pz.bindM (pureM (1 : Int)) fun (x11 : Int) => pureM (x10 - x11))) fun (x13 : Int) => optM (divO x12 x13))) fun (x14 : Int) => (Pz.bindM (pureM (1 : Int)) fun (x15 : Int) => pureM (x14 + x15))) fun (x17 : Int) => rangeM x16 x17)) fun (x30 : (List Int)) => forM' (fun (b19 : ((List (List Int)))) (y18 : Int) => (Pz.bindM (Pz.bindM (Pz.bindM (Pz.bindM (Pz.bindM (pureM v_length) fun (x21 : Int) => rangeM 0 x21) fun (x27 : (List Int)) => compM (fun (y22 : Int) => (pureM true)) (fun (y22 : Int) => (Pz.bindM (pureM y6) fun (x25 : Int) => (Pz.bindM (Pz.bindM (pureM y22) fun (x23 : Int) => (Pz.bindM (pureM y18) fun (x24 : Int) => optM (mulO x23 x24))) fun (x26 : Int) => pureM (x25 + x26)))) x27) fun (x28 : (List Int)) => optM (some x28)) fun (x29 : (List Int)) => appM b19 x29) fun (r20 : (List (List Int))) => (pureM r20))) x30 b7) fun (r31 : ((List (List Int)))) => (pureM r31))) x32 r1) fun (r33 : ((List (List Int)))) => (pureM r33)))
theorem ok_rows_to {f : Addr} {fd : FuncData} (F : Fun K "rows_to" "rows_to" s_rows_to f fd) (B : Bl mg) :
    FnG P w K mg base 1 f fd ["length", "many"] (SpM (fun p : Int × Int × Unit => [.fz (eInt p.1), .fz (eInt p.2.1)]) (eL (eT eInt)) (fun p : Int × Int × Unit => m_rows_to p.1 p.2.1)) := by
  refine g_ok F sc_rows_to (fun p : Int × Int × Unit => [.fz (eInt p.1), .fz (eInt p.2.1)]) (eL (eT eInt)) (fun p : Int × Int × Unit => m_rows_to p.1 p.2.1) (fun p => [.fz (eInt p.1), .fz (eInt p.2.1), .un, .un, .un, .un]) (fun _ => rfl) (fun _ => rfl) ?_
  intro cdv A above s H E R p hG hr
  obtain ⟨v_length, v_many, uu⟩ := p
  have sc := sc_rows_to
  exact (s_step (Γ1 := fun (r1 : (List (List Int))) => [.fz (eInt v_length), .fz (eInt v_many), .ow ((eL (eT eInt)) r1), .un, .un, .un]) (q_setF 2 (f_list l_nil) sc.nd) (fun (r1 : (List (List Int))) => (s_step (Γ1 := (fun (b : ((List (List Int)))) => [.fz (eInt v_length), .fz (eInt v_many), .ow ((eL (eT eInt)) b), .un, .un, .un])) (q_for (set := (st1 3 eInt)) (is := [3]) (fun (b : ((List (List Int)))) => [.fz (eInt v_length), .fz (eInt v_many), .ow ((eL (eT eInt)) b), .un, .un, .un]) r1 (fun (b7 : ((List (List Int)))) (y6 : Int) => (Pz.bindM (Pz.bindM (Pz.bindM (pureM (1 : Int)) fun (x16 : Int) => (Pz.bindM (Pz.bindM (Pz.bindM (Pz.bindM (pureM v_many) fun (x8 : Int) => (Pz.bindM (pureM y6) fun (x9 : Int) => pureM (x8 - x9))) fun (x12 : Int) => (Pz.bindM (Pz.bindM (pureM v_length) fun (x10 : Int) => (Pz.bindM (pureM (1 : Int)) fun (x11 : Int) => pureM (x10 - x11))) fun (x13 : Int) => optM (divO x12 x13))) fun (x14 : Int) => (Pz.bindM (pureM (1 : Int)) fun (x15 : Int) => pureM (x14 + x15))) fun (x17 : Int) => rangeM x16 x17)) fun (x30 : (List Int)) => forM' (fun (b19 : ((List (List Int)))) (y18 : Int) => (Pz.bindM (Pz.bindM (Pz.bindM (Pz.bindM (Pz.bindM (pureM v_length) fun (x21 : Int) => rangeM 0 x21) fun (x27 : (List Int)) => compM (fun (y22 : Int) => (pureM true)) (fun (y22 : Int) => (Pz.bindM (pureM y6) fun (x25 : Int) => (Pz.bindM (Pz.bindM (pureM y22) fun (x23 : Int) => (Pz.bindM (pureM y18) fun (x24 : Int) => optM (mulO x23 x24))) fun (x26 : Int) => pureM (x25 + x26)))) x27) fun (x28 : (List Int)) => optM (some x28)) fun (x29 : (List Int)) => appM b19 x29) fun (r20 : (List (List Int))) => (pureM r20))) x30 b7) fun (r31 : ((List (List Int)))) => (pureM r31))) PassesOwn.never rfl (i_range2 B.b_range e_int (e_add (e_var 1 eInt v_many) e_int)) (g1 3 eInt sc.nd) noow1 (.eq (.eq (.eq (.un (.un (.un .nil)))))) (fun (b7 : ((List (List Int)))) (y6 : Int) => (s_step (Γ1 := (fun (b : ((List (List Int)))) => [.fz (eInt v_length), .fz (eInt v_many), .ow ((eL (eT eInt)) b), .fz (eInt y6), .un, .un])) (q_for (set := (st1 4 eInt)) (is := [4]) (fun (b : ((List (List Int)))) => [.fz (eInt v_length), .fz (eInt v_many), .ow ((eL (eT eInt)) b), .fz (eInt y6), .un, .un]) b7 (fun (b19 : ((List (List Int)))) (y18 : Int) => (Pz.bindM (Pz.bindM (Pz.bindM (Pz.bindM (Pz.bindM (pureM v_length) fun (x21 : Int) => rangeM 0 x21) fun (x27 : (List Int)) => compM (fun (y22 : Int) => (pureM true)) (fun (y22 : Int) => (Pz.bindM (pureM y6) fun (x25 : Int) => (Pz.bindM (Pz.bindM (pureM y22) fun (x23 : Int) => (Pz.bindM (pureM y18) fun (x24 : Int) => optM (mulO x23 x24))) fun (x26 : Int) => pureM (x25 + x26)))) x27) fun (x28 : (List Int)) => optM (some x28)) fun (x29 : (List Int)) => appM b19 x29) fun (r20 : (List (List Int))) => (pureM r20))) PassesOwn.never rfl (i_range2 B.b_range e_int (e_add (e_div (e_sub (e_var 1 eInt v_many) (e_var 3 eInt y6)) (e_sub (e_var 0 eInt v_length) e_int)) e_int)) (g1 4 eInt sc.nd) noow1 (.eq (.eq (.eq (.eq (.un (.un .nil)))))) (fun (b19 : ((List (List Int)))) (y18 : Int) => (s_step (Γ1 := fun (r20 : (List (List Int))) => [.fz (eInt v_length), .fz (eInt v_many), .ow ((eL (eT eInt)) r20), .fz (eInt y6), .fz (eInt y18), .un]) (q_app 2 b19 (e_t1 (ea := (eL eInt)) (ec := (eT eInt)) (f := fun x => some x) call_tuple_of v_tupL B.b_tuple bt_tuple (f_e (f_lc (set := (st1 5 eInt)) (is := [5]) [("i", 5)] (fun (y22 : Int) => (pureM true)) (fun (y22 : Int) => (Pz.bindM (pureM y6) fun (x25 : Int) => (Pz.bindM (Pz.bindM (pureM y22) fun (x23 : Int) => (Pz.bindM (pureM y18) fun (x24 : Int) => optM (mulO x23 x24))) fun (x26 : Int) => pureM (x25 + x26)))) rfl sc.nd (i_range1 B.b_range (e_var 0 eInt v_length)) (blkOk_by (N := N_rows_to) (sc := (defScope s_rows_to)) (by decide +kernel)) (fun _ _ _ _ _ => (g1 5 eInt sc.nd)) (fun _ _ _ _ _ (y22 : Int) => c_nil) (fun _ _ _ _ _ (y22 : Int) => (e_add (e_var 3 eInt y6) (e_mul (e_var 5 eInt y22) (e_var 4 eInt y18)))) noow1 sm1 (fun _ h => h) (noOw rfl))))) (fun (r20 : (List (List Int))) => (s_nilN (Γb := (fun (b : ((List (List Int)))) => [.fz (eInt v_length), .fz (eInt v_many), .ow ((eL (eT eInt)) b), .fz (eInt y6), .un, .un])) r20 (.eq (.eq (.eq (.eq (.un (.un .nil))))))))))) (fun (r31 : ((List (List Int)))) => (s_nilN (Γb := (fun (b : ((List (List Int)))) => [.fz (eInt v_length), .fz (eInt v_many), .ow ((eL (eT eInt)) b), .un, .un, .un])) r31 (.eq (.eq (.eq (.un (.un (.un .nil))))))))))) (fun (r33 : ((List (List Int)))) => (s_low (Γ' := [.fz (eInt v_length), .fz (eInt v_many), .fz ((eL (eT eInt)) r33), .un, .un, .un]) (.eq (.eq (.fr (.un (.un (.un .nil)))))) (s_ret0 (e_var 2 (eL (eT eInt)) r33)))))))

abbrev s_shape_tuples : Stmt := topS 5
def N_shape_tuples : List Str := ["shape", "many"]
theorem sc_shape_tuples : FnScope N_shape_tuples ["shape", "many"] (defScope s_shape_tuples) := ⟨rfl, rfl, rfl, by decide +kernel, rfl, by decide +kernel, by decide +kernel⟩
def m_shape_tuples (v_shape : Int) (v_many : Int) : M (List (List Int)) := (Pz.bindM (Pz.bindM (Pz.bindM (Pz.bindM (pureM v_shape) fun (x1 : Int) => (Pz.bindM (pureM (0 : Int)) fun (x2 : Int) => pureM (decide (x1 = x2)))) fun (x9 : Bool) => if x9 then (Pz.bindM (pureM v_many) fun (x6 : Int) => m_sums_to x6) else (Pz.bindM (pureM v_shape) fun (x7 : Int) => (Pz.bindM (pureM v_many) fun (x8 : Int) => m_rows_to x7 x8))) fun (x10 : (List (List Int))) => optM (srtO (fun r : List Int => !r.isEmpty) (eT eInt) x10)) fun (x11 : (List (List Int))) => optM (some x11))
theorem ok_shape_tuples {f : Addr} {fd : FuncData} (F : Fun K "shape_tuples" "shape_tuples" s_shape_tuples f fd) (B : Bl mg)
    {f_sums_to : Addr} {d_sums_to : FuncData} (C_sums_to : Cal K mg "sums_to" f_sums_to d_sums_to ["many"]) (F_sums_to : FnG P w K mg base 1 f_sums_to d_sums_to ["many"] (SpM (fun p : Int × Unit => [.fz (eInt p.1)]) (eL (eT eInt)) (fun p : Int × Unit => m_sums_to p.1)))
    {f_rows_to : Addr} {d_rows_to : FuncData} (C_rows_to : Cal K mg "rows_to" f_rows_to d_rows_to ["length", "many"]) (F_rows_to : FnG P w K mg base 1 f_rows_to d_rows_to ["length", "many"] (SpM (fun p : Int × Int × Unit => [.fz (eInt p.1), .fz (eInt p.2.1)]) (eL (eT eInt)) (fun p : Int × Int × Unit => m_rows_to p.1 p.2.1))) :
    FnG P w K mg base 2 f fd ["shape", "many"] (SpM (fun p : Int × Int × Unit => [.fz (eInt p.1), .fz (eInt p.2.1)]) (eT (eT eInt)) (fun p : Int × Int × Unit => m_shape_tuples p.1 p.2.1)) := by
  refine g_ok F sc_shape_tuples (fun p : Int × Int × Unit => [.fz (eInt p.1), .fz (eInt p.2.1)]) (eT (eT eInt)) (fun p : Int × Int × Unit => m_shape_tuples p.1 p.2.1) (fun p => [.fz (eInt p.1), .fz (eInt p.2.1)]) (fun _ => rfl) (fun _ => rfl) ?_
  intro cdv A above s H E R p hG hr
  obtain ⟨v_shape, v_many, uu⟩ := p
  have sc := sc_shape_tuples
  exact (s_ret0 (e_t1 (ea := (eL (eT eInt))) (ec := (eT (eT eInt))) (f := fun x => some x) call_tuple_of v_tupL B.b_tuple bt_tuple (f_e (f_b1 (ea := (eL (eT eInt))) (ec := (eT eInt)) (f := fun x => srtO (fun r : List Int => !r.isEmpty) (eT eInt) x) (call_sortD Srt.rows hr.units) v_sort B.b_sorted bt_sorted (e_if (t_eqI (e_var 0 eInt v_shape) e_int) (e_c1 (F_sums_to.mono (by decide)) hG hr C_sums_to.mg C_sums_to.kp C_sums_to.bd (e_var 1 eInt v_many)) (e_c2 (F_rows_to.mono (by decide)) hG hr C_rows_to.mg C_rows_to.kp C_rows_to.bd (e_var 0 eInt v_shape) (e_var 1 eInt v_many)))))))

abbrev s_is_of_one_color : Stmt := topS 6
def N_is_of_one_color : List Str := ["coloring", "numbers", "x"]
theorem sc_is_of_one_color : FnScope N_is_of_one_color ["coloring", "numbers"] (defScope s_is_of_one_color) := ⟨rfl, rfl, rfl, by decide +kernel, rfl, by decide +kernel, by decide +kernel⟩
def m_is_of_one_color (v_coloring : (List Int)) (v_numbers : (List Int)) : M Bool := (Pz.bindM (Pz.bindM (pureM v_numbers) fun (x14 : (List Int)) => compM (fun (y1 : Int) => (pureM true)) (fun (y1 : Int) => (Pz.bindM (Pz.bindM (pureM v_coloring) fun (x4 : (List Int)) => (Pz.bindM (Pz.bindM (pureM y1) fun (x2 : Int) => (Pz.bindM (pureM (1 : Int)) fun (x3 : Int) => pureM (x2 - x3))) fun (x5 : Int) => optM (atI x4 x5))) fun (x12 : Int) => (Pz.bindM (Pz.bindM (pureM v_coloring) fun (x10 : (List Int)) => (Pz.bindM (Pz.bindM (Pz.bindM (pureM v_numbers) fun (x6 : (List Int)) => (Pz.bindM (pureM (0 : Int)) fun (x7 : Int) => optM (atI x6 x7))) fun (x8 : Int) => (Pz.bindM (pureM (1 : Int)) fun (x9 : Int) => pureM (x8 - x9))) fun (x11 : Int) => optM (atI x10 x11))) fun (x13 : Int) => pureM (decide (x12 = x13))))) x14) fun (x15 : (List Bool)) => optM (some (x15.all id)))
theorem ok_is_of_one_color {f : Addr} {fd : FuncData} (F : Fun K "is_of_one_color" "is_of_one_color" s_is_of_one_color f fd) (B : Bl mg) :
    FnG P w K mg base 1 f fd ["coloring", "numbers"] (SpM (fun p : (List Int) × (List Int) × Unit => [.fz ((eT eInt) p.1), .fz ((eT eInt) p.2.1)]) eBool (fun p : (List Int) × (List Int) × Unit => m_is_of_one_color p.1 p.2.1)) := by
  refine g_ok F sc_is_of_one_color (fun p : (List Int) × (List Int) × Unit => [.fz ((eT eInt) p.1), .fz ((eT eInt) p.2.1)]) eBool (fun p : (List Int) × (List Int) × Unit => m_is_of_one_color p.1 p.2.1) (fun p => [.fz ((eT eInt) p.1), .fz ((eT eInt) p.2.1), .un]) (fun _ => rfl) (fun _ => rfl) ?_
  intro cdv A above s H E R p hG hr
  obtain ⟨v_coloring, v_numbers, uu⟩ := p
  have sc := sc_is_of_one_color
  exact (s_ret0 (e_b1 (ea := (eL eBool)) (ec := eBool) (f := fun x => some (x.all id)) (cr_all rfl) v_all B.b_all bt_all (f_e (f_lc (set := (st1 2 eInt)) (is := [2]) [("x", 2)] (fun (y1 : Int) => (pureM true)) (fun (y1 : Int) => (Pz.bindM (Pz.bindM (pureM v_coloring) fun (x4 : (List Int)) => (Pz.bindM (Pz.bindM (pureM y1) fun (x2 : Int) => (Pz.bindM (pureM (1 : Int)) fun (x3 : Int) => pureM (x2 - x3))) fun (x5 : Int) => optM (atI x4 x5))) fun (x12 : Int) => (Pz.bindM (Pz.bindM (pureM v_coloring) fun (x10 : (List Int)) => (Pz.bindM (Pz.bindM (Pz.bindM (pureM v_numbers) fun (x6 : (List Int)) => (Pz.bindM (pureM (0 : Int)) fun (x7 : Int) => optM (atI x6 x7))) fun (x8 : Int) => (Pz.bindM (pureM (1 : Int)) fun (x9 : Int) => pureM (x8 - x9))) fun (x11 : Int) => optM (atI x10 x11))) fun (x13 : Int) => pureM (decide (x12 = x13))))) rfl sc.nd (i_tup (e_var 1 (eT eInt) v_numbers)) (blkOk_by (N := N_is_of_one_color) (sc := (defScope s_is_of_one_color)) (by decide +kernel)) (fun _ _ _ _ _ => (g1 2 eInt sc.nd)) (fun _ _ _ _ _ (y1 : Int) => c_nil) (fun _ _ _ _ _ (y1 : Int) => (e_eqI (e_ixT (e_var 0 (eT eInt) v_coloring) (e_sub (e_var 2 eInt y1) e_int)) (e_ixT (e_var 0 (eT eInt) v_coloring) (e_sub (e_ixT (e_var 1 (eT eInt) v_numbers) e_int) e_int)))) noow1 sm1 (fun _ h => h) (noOw rfl)))))

abbrev s_first_found : Stmt := topS 7
def N_first_found : List Str := ["shape", "coloring", "numbers"]
theorem sc_first_found : FnScope N_first_found ["shape", "coloring"] (defScope s_first_found) := ⟨rfl, rfl, rfl, by decide +kernel, rfl, by decide +kernel, by decide +kernel⟩
def m_first_found (v_shape : Int) (v_coloring : (List Int)) : M (Option (List Int)) := (Pz.bindM (Pz.bindM (Pz.bindM (pureM v_shape) fun (x2 : Int) => (Pz.bindM (Pz.bindM (pureM v_coloring) fun (x1 : (List Int)) => pureM (x1.length : Int)) fun (x3 : Int) => m_shape_tuples x2 x3)) fun (x11 : (List (List Int))) => forO (fun (b5 : Unit) (y4 : (List Int)) => (Pz.bindM (Pz.bindM (pureM v_coloring) fun (x6 : (List Int)) => (Pz.bindM (pureM y4) fun (x7 : (List Int)) => m_is_of_one_color x6 x7)) fun (x8 : Bool) => if x8 then Pz.bindM (Pz.bindM (pureM y4) fun (x9 : (List Int)) => pureM (some x9)) (fun (x10 : (Option (List Int))) => pureM (Out.rt x10)) else (pureM (Out.nx ())))) x11 ()) fun o => caseO o (fun (r12 : Unit) => (Pz.bindM (pureM ()) fun (x13 : Unit) => pureM (none : (Option (List Int))))) pureM)
theorem ok_first_found {f : Addr} {fd : FuncData} (F : Fun K "first_found" "first_found" s_first_found f fd) (B : Bl mg)
    {f_shape_tuples : Addr} {d_shape_tuples : FuncData} (C_shape_tuples : Cal K mg "shape_tuples" f_shape_tuples d_shape_tuples ["shape", "many"]) (F_shape_tuples : FnG P w K mg base 2 f_shape_tuples d_shape_tuples ["shape", "many"] (SpM (fun p : Int × Int × Unit => [.fz (eInt p.1), .fz (eInt p.2.1)]) (eT (eT eInt)) (fun p : Int × Int × Unit => m_shape_tuples p.1 p.2.1)))
    {f_is_of_one_color : Addr} {d_is_of_one_color : FuncData} (C_is_of_one_color : Cal K mg "is_of_one_color" f_is_of_one_color d_is_of_one_color ["coloring", "numbers"]) (F_is_of_one_color : FnG P w K mg base 1 f_is_of_one_color d_is_of_one_color ["coloring", "numbers"] (SpM (fun p : (List Int) × (List Int) × Unit => [.fz ((eT eInt) p.1), .fz ((eT eInt) p.2.1)]) eBool (fun p : (List Int) × (List Int) × Unit => m_is_of_one_color p.1 p.2.1))) :
    FnG P w K mg base 3 f fd ["shape", "coloring"] (SpM (fun p : Int × (List Int) × Unit => [.fz (eInt p.1), .fz ((eT eInt) p.2.1)]) (eO (eT eInt)) (fun p : Int × (List Int) × Unit => m_first_found p.1 p.2.1)) := by
  refine g_ok F sc_first_found (fun p : Int × (List Int) × Unit => [.fz (eInt p.1), .fz ((eT eInt) p.2.1)]) (eO (eT eInt)) (fun p : Int × (List Int) × Unit => m_first_found p.1 p.2.1) (fun p => [.fz (eInt p.1), .fz ((eT eInt) p.2.1), .un]) (fun _ => rfl) (fun _ => rfl) ?_
  intro cdv A above s H E R p hG hr
  obtain ⟨v_shape, v_coloring, uu⟩ := p
  have sc := sc_first_found
  exact (s_step1 (er := (eO (eT eInt))) (Γ1 := (fun (b : Unit) => [.fz (eInt v_shape), .fz ((eT eInt) v_coloring), .un])) (q_forO (er := (eO (eT eInt))) (set := (st1 2 (eT eInt))) (is := [2]) (fun (b : Unit) => [.fz (eInt v_shape), .fz ((eT eInt) v_coloring), .un]) () (fun (b5 : Unit) (y4 : (List Int)) => (Pz.bindM (Pz.bindM (pureM v_coloring) fun (x6 : (List Int)) => (Pz.bindM (pureM y4) fun (x7 : (List Int)) => m_is_of_one_color x6 x7)) fun (x8 : Bool) => if x8 then Pz.bindM (Pz.bindM (pureM y4) fun (x9 : (List Int)) => pureM (some x9)) (fun (x10 : (Option (List Int))) => pureM (Out.rt x10)) else (pureM (Out.nx ())))) PassesOwn.never rfl (i_tup (e_c2 (F_shape_tuples.mono (by decide)) hG hr C_shape_tuples.mg C_shape_tuples.kp C_shape_tuples.bd (e_var 0 eInt v_shape) (e_lenT B.b_len bt_len (e_var 1 (eT eInt) v_coloring)))) (g1 2 (eT eInt) sc.nd) noow1 (.eq (.eq (.un .nil))) (fun (b5 : Unit) (y4 : (List Int)) => (s_ifret2 (Γb := (fun (b : Unit) => [.fz (eInt v_shape), .fz ((eT eInt) v_coloring), .un])) (t_val (e_c2 (F_is_of_one_color.mono (by decide)) hG hr C_is_of_one_color.mg C_is_of_one_color.kp C_is_of_one_color.bd (e_var 1 (eT eInt) v_coloring) (e_var 2 (eT eInt) y4))) (s_ret0 (e_enc (eb := (eO (eT eInt))) some (e_var 2 (eT eInt) y4) (fun _ => rfl))) (s_nilO (Γb := (fun (b : Unit) => [.fz (eInt v_shape), .fz ((eT eInt) v_coloring), .un])) () (.eq (.eq (.un .nil))))))) (fun (r12 : Unit) => (s_ret0 (e_enc (eb := (eO (eT eInt))) (fun _ => (none : (Option (List Int)))) e_non (fun _ => rfl)))))

abbrev s_free_paper : Stmt := topS 9
def N_free_paper : List Str := ["shape", "coloring", "told"]
theorem sc_free_paper : FnScope N_free_paper ["shape", "coloring"] (defScope s_free_paper) := ⟨rfl, rfl, rfl, by decide +kernel, rfl, by decide +kernel, by decide +kernel⟩
def m_free_paper (v_shape : Int) (v_coloring : (List Int)) : M PyData := (Pz.bindM (Pz.bindM (pureM v_shape) fun (x2 : Int) => (Pz.bindM (pureM v_coloring) fun (x3 : (List Int)) => m_first_found x2 x3)) fun (r1 : (Option (List Int))) => (Pz.bindM (Pz.bindM (pureM r1) fun (x4 : (Option (List Int))) => pureM x4.isSome) fun (x13 : Bool) => if x13 then (Pz.bindM (Pz.bindM (pureM ("found" : Str)) fun (x7 : Str) => (Pz.bindM (Pz.bindM (pureM r1) fun (x5 : (Option (List Int))) => (Pz.bindM (pureM ()) fun (x6 : Unit) => pureM (x5, x6))) fun (x8 : ((Option (List Int)) × Unit)) => pureM (x7, x8))) fun (x9 : (Str × (Option (List Int)) × Unit)) => pureM ((eP (eC eStr (eC (eO (eT eInt)) eU))) x9)) else (Pz.bindM (Pz.bindM (pureM ("free" : Str)) fun (x10 : Str) => (Pz.bindM (pureM ()) fun (x11 : Unit) => pureM (x10, x11))) fun (x12 : (Str × Unit)) => pureM ((eP (eC eStr eU)) x12))))
theorem ok_free_paper {f : Addr} {fd : FuncData} (F : Fun K "free_paper" "free_paper" s_free_paper f fd) (B : Bl mg)
    {f_first_found : Addr} {d_first_found : FuncData} (C_first_found : Cal K mg "first_found" f_first_found d_first_found ["shape", "coloring"]) (F_first_found : FnG P w K mg base 3 f_first_found d_first_found ["shape", "coloring"] (SpM (fun p : Int × (List Int) × Unit => [.fz (eInt p.1), .fz ((eT eInt) p.2.1)]) (eO (eT eInt)) (fun p : Int × (List Int) × Unit => m_first_found p.1 p.2.1))) :
    FnG P w K mg base 4 f fd ["shape", "coloring"] (SpM (fun p : Int × (List Int) × Unit => [.fz (eInt p.1), .fz ((eT eInt) p.2.1)]) eD (fun p : Int × (List Int) × Unit => m_free_paper p.1 p.2.1)) := by
  refine g_ok F sc_free_paper (fun p : Int × (List Int) × Unit => [.fz (eInt p.1), .fz ((eT eInt) p.2.1)]) eD (fun p : Int × (List Int) × Unit => m_free_paper p.1 p.2.1) (fun p => [.fz (eInt p.1), .fz ((eT eInt) p.2.1), .un]) (fun _ => rfl) (fun _ => rfl) ?_
  intro cdv A above s H E R p hG hr
  obtain ⟨v_shape, v_coloring, uu⟩ := p
  have sc := sc_free_paper
  exact (s_step (Γ1 := fun (r1 : (Option (List Int))) => [.fz (eInt v_shape), .fz ((eT eInt) v_coloring), .fz ((eO (eT eInt)) r1)]) (q_set 2 (e_c2 (F_first_found.mono (by decide)) hG hr C_first_found.mg C_first_found.kp C_first_found.bd (e_var 0 eInt v_shape) (e_var 1 (eT eInt) v_coloring)) sc.nd) (fun (r1 : (Option (List Int))) => (s_ret0 (e_if (t_notN NN.tup (e_var 2 (eO (eT eInt)) r1)) (e_enc (eb := eD) (fun x => (eP (eC eStr (eC (eO (eT eInt)) eU))) x) (e_tup (eC eStr (eC (eO (eT eInt)) eU)) (a_cons e_str (a_cons (e_var 2 (eO (eT eInt)) r1) a_nil)) (hl := fun _ => (by decide : 2 ≤ sizeLine))) (fun _ => rfl)) (e_enc (eb := eD) (fun x => (eP (eC eStr eU)) x) (e_tup (eC eStr eU) (a_cons e_str a_nil) (hl := fun _ => (by decide : 1 ≤ sizeLine))) (fun _ => rfl))))))

abbrev s_is_free_form : Stmt := topS 10
def N_is_free_form : List Str := ["value", "x"]
theorem sc_is_free_form : FnScope N_is_free_form ["value"] (defScope s_is_free_form) := ⟨rfl, rfl, rfl, by decide +kernel, rfl, by decide +kernel, by decide +kernel⟩
def m_is_free_form (v_value : PyData) : M Bool := (Pz.bindM (Pz.bindM (Pz.bindM (Pz.bindM (pureM v_value) fun (x1 : PyData) => pureM (isTy "tuple" (eD x1))) fun (x2 : Bool) => pureM (!x2)) fun (x11 : Bool) => if x11 then pureM true else (Pz.bindM (Pz.bindM (pureM v_value) fun (x3 : PyData) => (Pz.bindM (pureM ()) fun (x4 : (Unit)) => optM (eqD (eD x3) ((eP eU) x4)))) fun (x10 : Bool) => if x10 then pureM true else (Pz.bindM (Pz.bindM (Pz.bindM (Pz.bindM (pureM v_value) fun (x5 : PyData) => optM (asTup x5)) fun (x6 : (List PyData)) => (Pz.bindM (pureM (0 : Int)) fun (x7 : Int) => optM (atI x6 x7))) fun (x8 : PyData) => pureM (isTy "str" (eD x8))) fun (x9 : Bool) => pureM (!x9)))) fun (x12 : Bool) => if x12 then (pureM false) else (Pz.bindM (Pz.bindM (Pz.bindM (Pz.bindM (pureM v_value) fun (x13 : PyData) => optM (asTup x13)) fun (x14 : (List PyData)) => (Pz.bindM (pureM (0 : Int)) fun (x15 : Int) => optM (atI x14 x15))) fun (x16 : PyData) => (Pz.bindM (pureM ("free" : Str)) fun (x17 : Str) => optM (eqD (eD x16) (eStr x17)))) fun (x18 : Bool) => if x18 then (Pz.bindM (Pz.bindM (Pz.bindM (pureM v_value) fun (x19 : PyData) => optM (asTup x19)) fun (x20 : (List PyData)) => pureM (x20.length : Int)) fun (x21 : Int) => (Pz.bindM (pureM (1 : Int)) fun (x22 : Int) => pureM (decide (x21 = x22)))) else (Pz.bindM (Pz.bindM (Pz.bindM (Pz.bindM (Pz.bindM (pureM v_value) fun (x23 : PyData) => optM (asTup x23)) fun (x24 : (List PyData)) => (Pz.bindM (pureM (0 : Int)) fun (x25 : Int) => optM (atI x24 x25))) fun (x26 : PyData) => (Pz.bindM (pureM ("found" : Str)) fun (x27 : Str) => optM ((eqD (eD x26) (eStr x27)).map (!·)))) fun (x38 : Bool) => if x38 then pureM true else (Pz.bindM (Pz.bindM (Pz.bindM (Pz.bindM (pureM v_value) fun (x28 : PyData) => optM (asTup x28)) fun (x29 : (List PyData)) => pureM (x29.length : Int)) fun (x30 : Int) => (Pz.bindM (pureM (2 : Int)) fun (x31 : Int) => pureM (!decide (x30 = x31)))) fun (x37 : Bool) => if x37 then pureM true else (Pz.bindM (Pz.bindM (Pz.bindM (Pz.bindM (pureM v_value) fun (x32 : PyData) => optM (asTup x32)) fun (x33 : (List PyData)) => (Pz.bindM (pureM (1 : Int)) fun (x34 : Int) => optM (atI x33 x34))) fun (x35 : PyData) => pureM (isTy "tuple" (eD x35))) fun (x36 : Bool) => pureM (!x36)))) fun (x39 : Bool) => if x39 then (pureM false) else (Pz.bindM (Pz.bindM (Pz.bindM (Pz.bindM (Pz.bindM (pureM v_value) fun (x40 : PyData) => optM (asTup x40)) fun (x41 : (List PyData)) => (Pz.bindM (pureM (1 : Int)) fun (x42 : Int) => optM (atI x41 x42))) fun (x43 : PyData) => optM (asTup x43)) fun (x46 : (List PyData)) => compM (fun (y44 : PyData) => (pureM true)) (fun (y44 : PyData) => (Pz.bindM (pureM y44) fun (x45 : PyData) => m_is_whole_number x45)) x46) fun (x47 : (List Bool)) => optM (some (x47.all id))))))
theorem ok_is_free_form {f : Addr} {fd : FuncData} (F : Fun K "is_free_form" "is_free_form" s_is_free_form f fd) (B : Bl mg)
    {f_is_whole_number : Addr} {d_is_whole_number : FuncData} (C_is_whole_number : Cal K mg "is_whole_number" f_is_whole_number d_is_whole_number ["value"]) (F_is_whole_number : FnG P w K mg base 1 f_is_whole_number d_is_whole_number ["value"] (SpM (fun p : PyData × Unit => [.fz (eD p.1)]) eBool (fun p : PyData × Unit => m_is_whole_number p.1))) :
    FnG P w K mg base 2 f fd ["value"] (SpM (fun p : PyData × Unit => [.fz (eD p.1)]) eBool (fun p : PyData × Unit => m_is_free_form p.1)) := by
  refine g_ok F sc_is_free_form (fun p : PyData × Unit => [.fz (eD p.1)]) eBool (fun p : PyData × Unit => m_is_free_form p.1) (fun p => [.fz (eD p.1), .un]) (fun _ => rfl) (fun _ => rfl) ?_
  intro cdv A above s H E R p hG hr
  obtain ⟨v_value, uu⟩ := p
  have sc := sc_is_free_form
  exact (s_ifret1 (w_t (w_or (t_not (t_val (e_isi (ea := eD) (fun K d => kit_tuple d) B.b_isinstance B.b_tuple bt_tuple (e_var 0 eD v_value)))) (w_or (t_eqD hr (e_var 0 eD v_value) (e_tup eU a_nil (hl := fun _ => (by decide : 0 ≤ sizeLine)))) (w_or1 (t_not (t_val (e_isi (ea := eD) (fun K d => kit_str d) B.b_isinstance B.b_str bt_str (e_ixT (e_dTup (e_var 0 eD v_value)) e_int)))))))) (s_ret0 e_bool) (s_ifret1 (t_eqD hr (e_ixT (e_dTup (e_var 0 eD v_value)) e_int) e_str) (s_ret0 (e_eqI (e_lenT B.b_len bt_len (e_dTup (e_var 0 eD v_value))) e_int)) (s_ifret1 (w_t (w_or (t_neD hr (e_ixT (e_dTup (e_var 0 eD v_value)) e_int) e_str) (w_or (t_neI (e_lenT B.b_len bt_len (e_dTup (e_var 0 eD v_value))) e_int) (w_or1 (t_not (t_val (e_isi (ea := eD) (fun K d => kit_tuple d) B.b_isinstance B.b_tuple bt_tuple (e_ixT (e_dTup (e_var 0 eD v_value)) e_int)))))))) (s_ret0 e_bool) (s_ret0 (e_b1 (ea := (eL eBool)) (ec := eBool) (f := fun x => some (x.all id)) (cr_all rfl) v_all B.b_all bt_all (f_e (f_lc (set := (st1 1 eD)) (is := [1]) [("x", 1)] (fun (y44 : PyData) => (pureM true)) (fun (y44 : PyData) => (Pz.bindM (pureM y44) fun (x45 : PyData) => m_is_whole_number x45)) rfl sc.nd (i_tup (e_dTup (e_ixT (e_dTup (e_var 0 eD v_value)) e_int))) (blkOk_by (N := N_is_free_form) (sc := (defScope s_is_free_form)) (by decide +kernel)) (fun _ _ _ _ _ => (g1 1 eD sc.nd)) (fun _ _ _ _ _ (y44 : PyData) => c_nil) (fun _ _ _ _ _ (y44 : PyData) => (e_c1 (F_is_whole_number.mono (by decide)) hG hr C_is_whole_number.mg C_is_whole_number.kp C_is_whole_number.bd (e_var 1 eD y44))) noow1 sm1 (fun _ h => h) (noOw rfl))))))))

abbrev s_color_fault : Stmt := topS 11
def N_color_fault : List Str := ["coloring", "numbers", "i", "x"]
theorem sc_color_fault : FnScope N_color_fault ["coloring", "numbers"] (defScope s_color_fault) := ⟨rfl, rfl, rfl, by decide +kernel, rfl, by decide +kernel, by decide +kernel⟩
def m_color_fault (v_coloring : (List Int)) (v_numbers : (List Int)) : M (Option Int) := (Pz.bindM (Pz.bindM (Pz.bindM (pureM v_numbers) fun (x1 : (List Int)) => pureM (enumL x1)) fun (x19 : (List (Int × Int × Unit))) => forO (fun (b3 : Unit) (y2 : (Int × Int × Unit)) => (Pz.bindM (Pz.bindM (Pz.bindM (pureM v_coloring) fun (x6 : (List Int)) => (Pz.bindM (Pz.bindM (pureM y2.2.1) fun (x4 : Int) => (Pz.bindM (pureM (1 : Int)) fun (x5 : Int) => pureM (x4 - x5))) fun (x7 : Int) => optM (atI x6 x7))) fun (x14 : Int) => (Pz.bindM (Pz.bindM (pureM v_coloring) fun (x12 : (List Int)) => (Pz.bindM (Pz.bindM (Pz.bindM (pureM v_numbers) fun (x8 : (List Int)) => (Pz.bindM (pureM (0 : Int)) fun (x9 : Int) => optM (atI x8 x9))) fun (x10 : Int) => (Pz.bindM (pureM (1 : Int)) fun (x11 : Int) => pureM (x10 - x11))) fun (x13 : Int) => optM (atI x12 x13))) fun (x15 : Int) => pureM (!decide (x14 = x15)))) fun (x16 : Bool) => if x16 then Pz.bindM (Pz.bindM (pureM y2.1) fun (x17 : Int) => pureM (some x17)) (fun (x18 : (Option Int)) => pureM (Out.rt x18)) else (pureM (Out.nx ())))) x19 ()) fun o => caseO o (fun (r20 : Unit) => (Pz.bindM (pureM ()) fun (x21 : Unit) => pureM (none : (Option Int)))) pureM)
theorem ok_color_fault {f : Addr} {fd : FuncData} (F : Fun K "color_fault" "color_fault" s_color_fault f fd) (B : Bl mg) :
    FnG P w K mg base 1 f fd ["coloring", "numbers"] (SpM (fun p : (List Int) × (List Int) × Unit => [.fz ((eT eInt) p.1), .fz ((eT eInt) p.2.1)]) (eO eInt) (fun p : (List Int) × (List Int) × Unit => m_color_fault p.1 p.2.1)) := by
  refine g_ok F sc_color_fault (fun p : (List Int) × (List Int) × Unit => [.fz ((eT eInt) p.1), .fz ((eT eInt) p.2.1)]) (eO eInt) (fun p : (List Int) × (List Int) × Unit => m_color_fault p.1 p.2.1) (fun p => [.fz ((eT eInt) p.1), .fz ((eT eInt) p.2.1), .un, .un]) (fun _ => rfl) (fun _ => rfl) ?_
  intro cdv A above s H E R p hG hr
  obtain ⟨v_coloring, v_numbers, uu⟩ := p
  have sc := sc_color_fault
  exact (s_step1 (er := (eO eInt)) (Γ1 := (fun (b : Unit) => [.fz ((eT eInt) v_coloring), .fz ((eT eInt) v_numbers), .un, .un])) (q_forO (er := (eO eInt)) (set := (st2 2 eInt 3 eInt)) (is := [2, 3]) (fun (b : Unit) => [.fz ((eT eInt) v_coloring), .fz ((eT eInt) v_numbers), .un, .un]) () (fun (b3 : Unit) (y2 : (Int × Int × Unit)) => (Pz.bindM (Pz.bindM (Pz.bindM (pureM v_coloring) fun (x6 : (List Int)) => (Pz.bindM (Pz.bindM (pureM y2.2.1) fun (x4 : Int) => (Pz.bindM (pureM (1 : Int)) fun (x5 : Int) => pureM (x4 - x5))) fun (x7 : Int) => optM (atI x6 x7))) fun (x14 : Int) => (Pz.bindM (Pz.bindM (pureM v_coloring) fun (x12 : (List Int)) => (Pz.bindM (Pz.bindM (Pz.bindM (pureM v_numbers) fun (x8 : (List Int)) => (Pz.bindM (pureM (0 : Int)) fun (x9 : Int) => optM (atI x8 x9))) fun (x10 : Int) => (Pz.bindM (pureM (1 : Int)) fun (x11 : Int) => pureM (x10 - x11))) fun (x13 : Int) => optM (atI x12 x13))) fun (x15 : Int) => pureM (!decide (x14 = x15)))) fun (x16 : Bool) => if x16 then Pz.bindM (Pz.bindM (pureM y2.1) fun (x17 : Int) => pureM (some x17)) (fun (x18 : (Option Int)) => pureM (Out.rt x18)) else (pureM (Out.nx ())))) PassesOwn.never rfl (i_enumT B.b_enumerate (e_var 1 (eT eInt) v_numbers)) (g2 2 3 eInt eInt rfl sc.nd) noow2 (.eq (.eq (.un (.un .nil)))) (fun (b3 : Unit) (y2 : (Int × Int × Unit)) => (s_ifret2 (Γb := (fun (b : Unit) => [.fz ((eT eInt) v_coloring), .fz ((eT eInt) v_numbers), .un, .un])) (t_neI (e_ixT (e_var 0 (eT eInt) v_coloring) (e_sub (e_var 3 eInt y2.2.1) e_int)) (e_ixT (e_var 0 (eT eInt) v_coloring) (e_sub (e_ixT (e_var 1 (eT eInt) v_numbers) e_int) e_int))) (s_ret0 (e_enc (eb := (eO eInt)) some (e_var 2 eInt y2.1) (fun _ => rfl))) (s_nilO (Γb := (fun (b : Unit) => [.fz ((eT eInt) v_coloring), .fz ((eT eInt) v_numbers), .un, .un])) () (.eq (.eq (.un (.un .nil)))))))) (fun (r20 : Unit) => (s_ret0 (e_enc (eb := (eO eInt)) (fun _ => (none : (Option Int))) e_non (fun _ => rfl)))))

abbrev s_judge_free : Stmt := topS 12
def N_judge_free : List Str := ["shape", "coloring", "value", "paper", "i"]
theorem sc_judge_free : FnScope N_judge_free ["shape", "coloring", "value"] (defScope s_judge_free) := ⟨rfl, rfl, rfl, by decide +kernel, rfl, by decide +kernel, by decide +kernel⟩
def m_judge_free (v_shape : Int) (v_coloring : (List Int)) (v_value : PyData) : M PyData := (Pz.bindM (Pz.bindM (Pz.bindM (pureM v_value) fun (x1 : PyData) => m_is_free_form x1) fun (x2 : Bool) => pureM (!x2)) fun (x3 : Bool) => if x3 then (Pz.bindM (Pz.bindM (pureM ("form" : Str)) fun (x4 : Str) => (Pz.bindM (pureM ()) fun (x5 : Unit) => pureM (x4, x5))) fun (x6 : (Str × Unit)) => pureM ((eP (eC eStr eU)) x6)) else (Pz.bindM (Pz.bindM (Pz.bindM (Pz.bindM (pureM v_value) fun (x7 : PyData) => optM (asTup x7)) fun (x8 : (List PyData)) => (Pz.bindM (pureM (0 : Int)) fun (x9 : Int) => optM (atI x8 x9))) fun (x10 : PyData) => (Pz.bindM (pureM ("free" : Str)) fun (x11 : Str) => optM (eqD (eD x10) (eStr x11)))) fun (x12 : Bool) => if x12 then (Pz.bindM (Pz.bindM (pureM v_shape) fun (x14 : Int) => (Pz.bindM (pureM v_coloring) fun (x15 : (List Int)) => m_free_paper x14 x15)) fun (r13 : PyData) => (Pz.bindM (Pz.bindM (pureM r13) fun (x18 : PyData) => (Pz.bindM (pureM v_value) fun (x19 : PyData) => optM ((eqD (eD x18) (eD x19)).map (!·)))) fun (x21 : Bool) => if x21 then (pureM r13) else (Pz.bindM (pureM ()) fun (x20 : Unit) => pureM (eNon x20)))) else (Pz.bindM (Pz.bindM (Pz.bindM (Pz.bindM (pureM v_value) fun (x25 : PyData) => optM (asTup x25)) fun (x26 : (List PyData)) => (Pz.bindM (pureM (1 : Int)) fun (x27 : Int) => optM (atI x26 x27))) fun (x28 : PyData) => (Pz.bindM (Pz.bindM (pureM v_shape) fun (x23 : Int) => (Pz.bindM (Pz.bindM (pureM v_coloring) fun (x22 : (List Int)) => pureM (x22.length : Int)) fun (x24 : Int) => m_shape_tuples x23 x24)) fun (x29 : (List (List Int))) => optM ((inD (eD x28) ((eT (eT eInt)) x29)).map (!·)))) fun (x30 : Bool) => if x30 then (Pz.bindM (Pz.bindM (pureM ("shape" : Str)) fun (x31 : Str) => (Pz.bindM (pureM ()) fun (x32 : Unit) => pureM (x31, x32))) fun (x33 : (Str × Unit)) => pureM ((eP (eC eStr eU)) x33)) else (Pz.bindM (Pz.bindM (pureM v_coloring) fun (x40 : (List Int)) => (Pz.bindM (Pz.bindM (Pz.bindM (Pz.bindM (Pz.bindM (pureM v_value) fun (x35 : PyData) => optM (asTup x35)) fun (x36 : (List PyData)) => (Pz.bindM (pureM (1 : Int)) fun (x37 : Int) => optM (atI x36 x37))) fun (x38 : PyData) => optM (asTup x38)) fun (x39 : (List PyData)) => optM (x39.mapM asInt)) fun (x41 : (List Int)) => m_color_fault x40 x41)) fun (r34 : (Option Int)) => (Pz.bindM (Pz.bindM (pureM r34) fun (x42 : (Option Int)) => pureM x42.isSome) fun (x49 : Bool) => if x49 then (Pz.bindM (Pz.bindM (pureM ("colors" : Str)) fun (x45 : Str) => (Pz.bindM (Pz.bindM (pureM r34) fun (x43 : (Option Int)) => (Pz.bindM (pureM ()) fun (x44 : Unit) => pureM (x43, x44))) fun (x46 : ((Option Int) × Unit)) => pureM (x45, x46))) fun (x47 : (Str × (Option Int) × Unit)) => pureM ((eP (eC eStr (eC (eO eInt) eU))) x47)) else (Pz.bindM (pureM ()) fun (x48 : Unit) => pureM (eNon x48)))))))
theorem ok_judge_free {f : Addr} {fd : FuncData} (F : Fun K "judge_free" "judge_free" s_judge_free f fd) (B : Bl mg)
    {f_is_free_form : Addr} {d_is_free_form : FuncData} (C_is_free_form : Cal K mg "is_free_form" f_is_free_form d_is_free_form ["value"]) (F_is_free_form : FnG P w K mg base 2 f_is_free_form d_is_free_form ["value"] (SpM (fun p : PyData × Unit => [.fz (eD p.1)]) eBool (fun p : PyData × Unit => m_is_free_form p.1)))
    {f_free_paper : Addr} {d_free_paper : FuncData} (C_free_paper : Cal K mg "free_paper" f_free_paper d_free_paper ["shape", "coloring"]) (F_free_paper : FnG P w K mg base 4 f_free_paper d_free_paper ["shape", "coloring"] (SpM (fun p : Int × (List Int) × Unit => [.fz (eInt p.1), .fz ((eT eInt) p.2.1)]) eD (fun p : Int × (List Int) × Unit => m_free_paper p.1 p.2.1)))
    {f_shape_tuples : Addr} {d_shape_tuples : FuncData} (C_shape_tuples : Cal K mg "shape_tuples" f_shape_tuples d_shape_tuples ["shape", "many"]) (F_shape_tuples : FnG P w K mg base 2 f_shape_tuples d_shape_tuples ["shape", "many"] (SpM (fun p : Int × Int × Unit => [.fz (eInt p.1), .fz (eInt p.2.1)]) (eT (eT eInt)) (fun p : Int × Int × Unit => m_shape_tuples p.1 p.2.1)))
    {f_color_fault : Addr} {d_color_fault : FuncData} (C_color_fault : Cal K mg "color_fault" f_color_fault d_color_fault ["coloring", "numbers"]) (F_color_fault : FnG P w K mg base 1 f_color_fault d_color_fault ["coloring", "numbers"] (SpM (fun p : (List Int) × (List Int) × Unit => [.fz ((eT eInt) p.1), .fz ((eT eInt) p.2.1)]) (eO eInt) (fun p : (List Int) × (List Int) × Unit => m_color_fault p.1 p.2.1))) :
    FnG P w K mg base 5 f fd ["shape", "coloring", "value"] (SpM (fun p : Int × (List Int) × PyData × Unit => [.fz (eInt p.1), .fz ((eT eInt) p.2.1), .fz (eD p.2.2.1)]) eD (fun p : Int × (List Int) × PyData × Unit => m_judge_free p.1 p.2.1 p.2.2.1)) := by
  refine g_ok F sc_judge_free (fun p : Int × (List Int) × PyData × Unit => [.fz (eInt p.1), .fz ((eT eInt) p.2.1), .fz (eD p.2.2.1)]) eD (fun p : Int × (List Int) × PyData × Unit => m_judge_free p.1 p.2.1 p.2.2.1) (fun p => [.fz (eInt p.1), .fz ((eT eInt) p.2.1), .fz (eD p.2.2.1), .un, .un]) (fun _ => rfl) (fun _ => rfl) ?_
  intro cdv A above s H E R p hG hr
  obtain ⟨v_shape, v_coloring, v_value, uu⟩ := p
  have sc := sc_judge_free
  exact (s_ifret1 (t_not (t_val (e_c1 (F_is_free_form.mono (by decide)) hG hr C_is_free_form.mg C_is_free_form.kp C_is_free_form.bd (e_var 2 eD v_value)))) (s_ret0 (e_enc (eb := eD) (fun x => (eP (eC eStr eU)) x) (e_tup (eC eStr eU) (a_cons e_str a_nil) (hl := fun _ => (by decide : 1 ≤ sizeLine))) (fun _ => rfl))) (s_ifret1 (t_eqD hr (e_ixT (e_dTup (e_var 2 eD v_value)) e_int) e_str) (s_step (Γ1 := fun (r13 : PyData) => [.fz (eInt v_shape), .fz ((eT eInt) v_coloring), .fz (eD v_value), .fz (eD r13), .un]) (q_set 3 (e_c2 (F_free_paper.mono (by decide)) hG hr C_free_paper.mg C_free_paper.kp C_free_paper.bd (e_var 0 eInt v_shape) (e_var 1 (eT eInt) v_coloring)) sc.nd) (fun (r13 : PyData) => (s_ret0 (e_if (t_neD hr (e_var 3 eD r13) (e_var 2 eD v_value)) (e_var 3 eD r13) (e_enc (eb := eD) (fun x => eNon x) e_non (fun _ => rfl)))))) (s_ifret1 (t_ninD hr (e_ixT (e_dTup (e_var 2 eD v_value)) e_int) (e_c2 (F_shape_tuples.mono (by decide)) hG hr C_shape_tuples.mg C_shape_tuples.kp C_shape_tuples.bd (e_var 0 eInt v_shape) (e_lenT B.b_len bt_len (e_var 1 (eT eInt) v_coloring)))) (s_ret0 (e_enc (eb := eD) (fun x => (eP (eC eStr eU)) x) (e_tup (eC eStr eU) (a_cons e_str a_nil) (hl := fun _ => (by decide : 1 ≤ sizeLine))) (fun _ => rfl))) (s_step (Γ1 := fun (r34 : (Option Int)) => [.fz (eInt v_shape), .fz ((eT eInt) v_coloring), .fz (eD v_value), .un, .fz ((eO eInt) r34)]) (q_set 4 (e_c2 (F_color_fault.mono (by decide)) hG hr C_color_fault.mg C_color_fault.kp C_color_fault.bd (e_var 1 (eT eInt) v_coloring) (e_dTupAs asInt (fun x y q => by cases x <;> cases q <;> rfl) (e_dTup (e_ixT (e_dTup (e_var 2 eD v_value)) e_int)))) sc.nd) (fun (r34 : (Option Int)) => (s_ret0 (e_if (t_notN NN.int (e_var 4 (eO eInt) r34)) (e_enc (eb := eD) (fun x => (eP (eC eStr (eC (eO eInt) eU))) x) (e_tup (eC eStr (eC (eO eInt) eU)) (a_cons e_str (a_cons (e_var 4 (eO eInt) r34) a_nil)) (hl := fun _ => (by decide : 2 ≤ sizeLine))) (fun _ => rfl)) (e_enc (eb := eD) (fun x => eNon x) e_non (fun _ => rfl)))))))))

abbrev s__law_tuples : Stmt := topS 17
def N__law_tuples : List Str := ["shape", "many", "found", "a", "b", "row", "i"]
theorem sc__law_tuples : FnScope N__law_tuples ["shape", "many"] (defScope s__law_tuples) := ⟨rfl, rfl, rfl, by decide +kernel, rfl, by decide +kernel, by decide +kernel⟩
def m__law_tuples (v_shape : Int) (v_many : Int) : M (List (List Int)) := (Pz.bindM (smallM (pureM ([] : List (List Int)))) fun (r1 : (List (List Int))) => (Pz.bindM (Pz.bindM (Pz.bindM (pureM (1 : Int)) fun (x4 : Int) => (Pz.bindM (Pz.bindM (pureM v_many) fun (x2 : Int) => (Pz.bindM (pureM (1 : Int)) fun (x3 : Int) => pureM (x2 + x3))) fun (x5 : Int) => rangeM x4 x5)) fun (x74 : (List Int)) => forM' (fun (b7 : ((List (List Int)))) (y6 : Int) => (Pz.bindM (Pz.bindM (Pz.bindM (Pz.bindM (Pz.bindM (pureM v_shape) fun (x8 : Int) => (Pz.bindM (pureM (0 : Int)) fun (x9 : Int) => pureM (decide (x8 = x9)))) fun (x12 : Bool) => if x12 then (pureM y6) else (Pz.bindM (pureM y6) fun (x10 : Int) => (Pz.bindM (pureM (1 : Int)) fun (x11 : Int) => pureM (x10 + x11)))) fun (x15 : Int) => (Pz.bindM (Pz.bindM (pureM v_many) fun (x13 : Int) => (Pz.bindM (pureM (1 : Int)) fun (x14 : Int) => pureM (x13 + x14))) fun (x16 : Int) => rangeM x15 x16)) fun (x72 : (List Int)) => forM' (fun (b18 : ((List (List Int)))) (y17 : Int) => (Pz.bindM (Pz.bindM (Pz.bindM (pureM v_shape) fun (x20 : Int) => (Pz.bindM (pureM (0 : Int)) fun (x21 : Int) => pureM (decide (x20 = x21)))) fun (x58 : Bool) => if x58 then (smallM (Pz.bindM (pureM y6) fun (x46 : Int) => (Pz.bindM (Pz.bindM (pureM y17) fun (x44 : Int) => (Pz.bindM (Pz.bindM (Pz.bindM (pureM y6) fun (x40 : Int) => (Pz.bindM (pureM y17) fun (x41 : Int) => pureM (x40 + x41))) fun (x42 : Int) => (Pz.bindM (pureM ([] : List Int)) fun (x43 : (List Int)) => pureM (x42 :: x43))) fun (x45 : (List Int)) => pureM (x44 :: x45))) fun (x47 : (List Int)) => pureM (x46 :: x47)))) else (Pz.bindM (Pz.bindM (Pz.bindM (pureM v_shape) fun (x48 : Int) => rangeM 0 x48) fun (x56 : (List Int)) => compM (fun (y49 : Int) => (pureM true)) (fun (y49 : Int) => (Pz.bindM (pureM y6) fun (x54 : Int) => (Pz.bindM (Pz.bindM (pureM y49) fun (x52 : Int) => (Pz.bindM (Pz.bindM (pureM y17) fun (x50 : Int) => (Pz.bindM (pureM y6) fun (x51 : Int) => pureM (x50 - x51))) fun (x53 : Int) => optM (mulO x52 x53))) fun (x55 : Int) => pureM (x54 + x55)))) x56) fun (x57 : (List Int)) => optM (some x57))) fun (r19 : (List Int)) => (Pz.bindM (Pz.bindM (pureM b18) fun (x70 : (List (List Int))) => (Pz.bindM (Pz.bindM (smallM (Pz.bindM (pureM r19) fun (x60 : (List Int)) => (Pz.bindM (pureM ([] : List (List Int))) fun (x61 : (List (List Int))) => pureM (x60 :: x61)))) fun (x68 : (List (List Int))) => (Pz.bindM (Pz.bindM (Pz.bindM (Pz.bindM (pureM r19) fun (x63 : (List Int)) => (Pz.bindM (Pz.bindM (pureM (1 : Int)) fun (x62 : Int) => pureM (-x62)) fun (x64 : Int) => optM (atI x63 x64))) fun (x65 : Int) => (Pz.bindM (pureM v_many) fun (x66 : Int) => pureM (decide (x65 ≤ x66)))) fun (x67 : Bool) => optM (some (if x67 then 1 else 0))) fun (x69 : Int) => optM (repO x68 x69))) fun (x71 : (List (List Int))) => optM (catO x70 x71))) fun (r59 : (List (List Int))) => (pureM r59)))) x72 b7) fun (r73 : ((List (List Int)))) => (pureM r73))) x74 r1) fun (r75 : ((List (List Int)))) => (Pz.bindM (pureM r75) fun (x76 : (List (List Int))) => optM (srtO (fun r : List Int => !r.isEmpty) (eT eInt) x76))))
theorem ok__law_tuples {f : Addr} {fd : FuncData} (F : Fun K "_law_tuples" "_law_tuples" s__law_tuples f fd) (B : Bl mg) :
    FnG P w K mg base 1 f fd ["shape", "many"] (SpM (fun p : Int × Int × Unit => [.fz (eInt p.1), .fz (eInt p.2.1)]) (eL (eT eInt)) (fun p : Int × Int × Unit => m__law_tuples p.1 p.2.1)) := by
  refine g_ok F sc__law_tuples (fun p : Int × Int × Unit => [.fz (eInt p.1), .fz (eInt p.2.1)]) (eL (eT eInt)) (fun p : Int × Int × Unit => m__law_tuples p.1 p.2.1) (fun p => [.fz (eInt p.1), .fz (eInt p.2.1), .un, .un, .un, .un, .un]) (fun _ => rfl) (fun _ => rfl) ?_
  intro cdv A above s H E R p hG hr
  obtain ⟨v_shape, v_many, uu⟩ := p
  have sc := sc__law_tuples
  exact (s_step (Γ1 := fun (r1 : (List (List Int))) => [.fz (eInt v_shape), .fz (eInt v_many), .fz ((eL (eT eInt)) r1), .un, .un, .un, .un]) (q_set 2 (f_e (f_list l_nil)) sc.nd) (fun (r1 : (List (List Int))) => (s_step (Γ1 := (fun (b : ((List (List Int)))) => [.fz (eInt v_shape), .fz (eInt v_many), .fz ((eL (eT eInt)) b), .un, .un, .un, .un])) (q_for (set := (st1 3 eInt)) (is := [3]) (fun (b : ((List (List Int)))) => [.fz (eInt v_shape), .fz (eInt v_many), .fz ((eL (eT eInt)) b), .un, .un, .un, .un]) r1 (fun (b7 : ((List (List Int)))) (y6 : Int) => (Pz.bindM (Pz.bindM (Pz.bindM (Pz.bindM (Pz.bindM (pureM v_shape) fun (x8 : Int) => (Pz.bindM (pureM (0 : Int)) fun (x9 : Int) => pureM (decide (x8 = x9)))) fun (x12 : Bool) => if x12 then (pureM y6) else (Pz.bindM (pureM y6) fun (x10 : Int) => (Pz.bindM (pureM (1 : Int)) fun (x11 : Int) => pureM (x10 + x11)))) fun (x15 : Int) => (Pz.bindM (Pz.bindM (pureM v_many) fun (x13 : Int) => (Pz.bindM (pureM (1 : Int)) fun (x14 : Int) => pureM (x13 + x14))) fun (x16 : Int) => rangeM x15 x16)) fun (x72 : (List Int)) => forM' (fun (b18 : ((List (List Int)))) (y17 : Int) => (Pz.bindM (Pz.bindM (Pz.bindM (pureM v_shape) fun (x20 : Int) => (Pz.bindM (pureM (0 : Int)) fun (x21 : Int) => pureM (decide (x20 = x21)))) fun (x58 : Bool) => if x58 then (smallM (Pz.bindM (pureM y6) fun (x46 : Int) => (Pz.bindM (Pz.bindM (pureM y17) fun (x44 : Int) => (Pz.bindM (Pz.bindM (Pz.bindM (pureM y6) fun (x40 : Int) => (Pz.bindM (pureM y17) fun (x41 : Int) => pureM (x40 + x41))) fun (x42 : Int) => (Pz.bindM (pureM ([] : List Int)) fun (x43 : (List Int)) => pureM (x42 :: x43))) fun (x45 : (List Int)) => pureM (x44 :: x45))) fun (x47 : (List Int)) => pureM (x46 :: x47)))) else (Pz.bindM (Pz.bindM (Pz.bindM (pureM v_shape) fun (x48 : Int) => rangeM 0 x48) fun (x56 : (List Int)) => compM (fun (y49 : Int) => (pureM true)) (fun (y49 : Int) => (Pz.bindM (pureM y6) fun (x54 : Int) => (Pz.bindM (Pz.bindM (pureM y49) fun (x52 : Int) => (Pz.bindM (Pz.bindM (pureM y17) fun (x50 : Int) => (Pz.bindM (pureM y6) fun (x51 : Int) => pureM (x50 - x51))) fun (x53 : Int) => optM (mulO x52 x53))) fun (x55 : Int) => pureM (x54 + x55)))) x56) fun (x57 : (List Int)) => optM (some x57))) fun (r19 : (List Int)) => (Pz.bindM (Pz.bindM (pureM b18) fun (x70 : (List (List Int))) => (Pz.bindM (Pz.bindM (smallM (Pz.bindM (pureM r19) fun (x60 : (List Int)) => (Pz.bindM (pureM ([] : List (List Int))) fun (x61 : (List (List Int))) => pureM (x60 :: x61)))) fun (x68 : (List (List Int))) => (Pz.bindM (Pz.bindM (Pz.bindM (Pz.bindM (pureM r19) fun (x63 : (List Int)) => (Pz.bindM (Pz.bindM (pureM (1 : Int)) fun (x62 : Int) => pureM (-x62)) fun (x64 : Int) => optM (atI x63 x64))) fun (x65 : Int) => (Pz.bindM (pureM v_many) fun (x66 : Int) => pureM (decide (x65 ≤ x66)))) fun (x67 : Bool) => optM (some (if x67 then 1 else 0))) fun (x69 : Int) => optM (repO x68 x69))) fun (x71 : (List (List Int))) => optM (catO x70 x71))) fun (r59 : (List (List Int))) => (pureM r59)))) x72 b7) fun (r73 : ((List (List Int)))) => (pureM r73))) PassesOwn.never rfl (i_range2 B.b_range e_int (e_add (e_var 1 eInt v_many) e_int)) (g1 3 eInt sc.nd) noow1 (.eq (.eq (.eq (.un (.un (.un (.un .nil))))))) (fun (b7 : ((List (List Int)))) (y6 : Int) => (s_step (Γ1 := (fun (b : ((List (List Int)))) => [.fz (eInt v_shape), .fz (eInt v_many), .fz ((eL (eT eInt)) b), .fz (eInt y6), .un, .un, .un])) (q_for (set := (st1 4 eInt)) (is := [4]) (fun (b : ((List (List Int)))) => [.fz (eInt v_shape), .fz (eInt v_many), .fz ((eL (eT eInt)) b), .fz (eInt y6), .un, .un, .un]) b7 (fun (b18 : ((List (List Int)))) (y17 : Int) => (Pz.bindM (Pz.bindM (Pz.bindM (pureM v_shape) fun (x20 : Int) => (Pz.bindM (pureM (0 : Int)) fun (x21 : Int) => pureM (decide (x20 = x21)))) fun (x58 : Bool) => if x58 then (smallM (Pz.bindM (pureM y6) fun (x46 : Int) => (Pz.bindM (Pz.bindM (pureM y17) fun (x44 : Int) => (Pz.bindM (Pz.bindM (Pz.bindM (pureM y6) fun (x40 : Int) => (Pz.bindM (pureM y17) fun (x41 : Int) => pureM (x40 + x41))) fun (x42 : Int) => (Pz.bindM (pureM ([] : List Int)) fun (x43 : (List Int)) => pureM (x42 :: x43))) fun (x45 : (List Int)) => pureM (x44 :: x45))) fun (x47 : (List Int)) => pureM (x46 :: x47)))) else (Pz.bindM (Pz.bindM (Pz.bindM (pureM v_shape) fun (x48 : Int) => rangeM 0 x48) fun (x56 : (List Int)) => compM (fun (y49 : Int) => (pureM true)) (fun (y49 : Int) => (Pz.bindM (pureM y6) fun (x54 : Int) => (Pz.bindM (Pz.bindM (pureM y49) fun (x52 : Int) => (Pz.bindM (Pz.bindM (pureM y17) fun (x50 : Int) => (Pz.bindM (pureM y6) fun (x51 : Int) => pureM (x50 - x51))) fun (x53 : Int) => optM (mulO x52 x53))) fun (x55 : Int) => pureM (x54 + x55)))) x56) fun (x57 : (List Int)) => optM (some x57))) fun (r19 : (List Int)) => (Pz.bindM (Pz.bindM (pureM b18) fun (x70 : (List (List Int))) => (Pz.bindM (Pz.bindM (smallM (Pz.bindM (pureM r19) fun (x60 : (List Int)) => (Pz.bindM (pureM ([] : List (List Int))) fun (x61 : (List (List Int))) => pureM (x60 :: x61)))) fun (x68 : (List (List Int))) => (Pz.bindM (Pz.bindM (Pz.bindM (Pz.bindM (pureM r19) fun (x63 : (List Int)) => (Pz.bindM (Pz.bindM (pureM (1 : Int)) fun (x62 : Int) => pureM (-x62)) fun (x64 : Int) => optM (atI x63 x64))) fun (x65 : Int) => (Pz.bindM (pureM v_many) fun (x66 : Int) => pureM (decide (x65 ≤ x66)))) fun (x67 : Bool) => optM (some (if x67 then 1 else 0))) fun (x69 : Int) => optM (repO x68 x69))) fun (x71 : (List (List Int))) => optM (catO x70 x71))) fun (r59 : (List (List Int))) => (pureM r59)))) PassesOwn.never rfl (i_range2 B.b_range (e_if (t_eqI (e_var 0 eInt v_shape) e_int) (e_var 3 eInt y6) (e_add (e_var 3 eInt y6) e_int)) (e_add (e_var 1 eInt v_many) e_int)) (g1 4 eInt sc.nd) noow1 (.eq (.eq (.eq (.eq (.un (.un (.un .nil))))))) (fun (b18 : ((List (List Int)))) (y17 : Int) => (s_step (Γ1 := fun (r19 : (List Int)) => [.fz (eInt v_shape), .fz (eInt v_many), .fz ((eL (eT eInt)) b18), .fz (eInt y6), .fz (eInt y17), .fz ((eT eInt) r19), .un]) (q_set 5 (e_if (t_eqI (e_var 0 eInt v_shape) e_int) (e_tupl (l_cons (e_var 3 eInt y6) (l_cons (e_var 4 eInt y17) (l_cons (e_add (e_var 3 eInt y6) (e_var 4 eInt y17)) l_nil)))) (e_t1 (ea := (eL eInt)) (ec := (eT eInt)) (f := fun x => some x) call_tuple_of v_tupL B.b_tuple bt_tuple (f_e (f_lc (set := (st1 6 eInt)) (is := [6]) [("i", 6)] (fun (y49 : Int) => (pureM true)) (fun (y49 : Int) => (Pz.bindM (pureM y6) fun (x54 : Int) => (Pz.bindM (Pz.bindM (pureM y49) fun (x52 : Int) => (Pz.bindM (Pz.bindM (pureM y17) fun (x50 : Int) => (Pz.bindM (pureM y6) fun (x51 : Int) => pureM (x50 - x51))) fun (x53 : Int) => optM (mulO x52 x53))) fun (x55 : Int) => pureM (x54 + x55)))) rfl sc.nd (i_range1 B.b_range (e_var 0 eInt v_shape)) (blkOk_by (N := N__law_tuples) (sc := (defScope s__law_tuples)) (by decide +kernel)) (fun _ _ _ _ _ => (g1 6 eInt sc.nd)) (fun _ _ _ _ _ (y49 : Int) => c_nil) (fun _ _ _ _ _ (y49 : Int) => (e_add (e_var 3 eInt y6) (e_mul (e_var 6 eInt y49) (e_sub (e_var 4 eInt y17) (e_var 3 eInt y6))))) noow1 sm1 (fun _ h => h) (noOw rfl))))) sc.nd) (fun (r19 : (List Int)) => (s_step (Γ1 := fun (r59 : (List (List Int))) => [.fz (eInt v_shape), .fz (eInt v_many), .fz ((eL (eT eInt)) r59), .fz (eInt y6), .fz (eInt y17), .fz ((eT eInt) r19), .un]) (q_set 2 (f_e (f_catL (e_var 2 (eL (eT eInt)) b18) (f_e (f_repL (f_e (f_list (l_cons (e_var 5 (eT eInt) r19) l_nil))) (e_t1 (ea := eBool) (ec := eInt) (f := fun x => some (if x then 1 else 0)) call_int1 v_intB B.b_int bt_int (e_le (e_ixT (e_var 5 (eT eInt) r19) (e_neg e_int)) (e_var 1 eInt v_many))))))) sc.nd) (fun (r59 : (List (List Int))) => (s_nilN (Γb := (fun (b : ((List (List Int)))) => [.fz (eInt v_shape), .fz (eInt v_many), .fz ((eL (eT eInt)) b), .fz (eInt y6), .un, .un, .un])) r59 (.eq (.eq (.eq (.eq (.un (.un (.un .nil)))))))))))))) (fun (r73 : ((List (List Int)))) => (s_nilN (Γb := (fun (b : ((List (List Int)))) => [.fz (eInt v_shape), .fz (eInt v_many), .fz ((eL (eT eInt)) b), .un, .un, .un, .un])) r73 (.eq (.eq (.eq (.un (.un (.un (.un .nil)))))))))))) (fun (r75 : ((List (List Int)))) => (s_ret0 (f_e (f_b1 (ea := (eL (eT eInt))) (ec := (eT eInt)) (f := fun x => srtO (fun r : List Int => !r.isEmpty) (eT eInt) x) (call_sortD Srt.rows hr.units) v_sort B.b_sorted bt_sorted (e_var 2 (eL (eT eInt)) r75))))))))

abbrev s__law_found : Stmt := topS 18
def N__law_found : List Str := ["shape", "coloring", "found", "row", "x"]
theorem sc__law_found : FnScope N__law_found ["shape", "coloring"] (defScope s__law_found) := ⟨rfl, rfl, rfl, by decide +kernel, rfl, by decide +kernel, by decide +kernel⟩
def m__law_found (v_shape : Int) (v_coloring : (List Int)) : M (List (List Int)) := (Pz.bindM (smallM (pureM ([] : List (List Int)))) fun (r1 : (List (List Int))) => (Pz.bindM (Pz.bindM (Pz.bindM (pureM v_shape) fun (x3 : Int) => (Pz.bindM (Pz.bindM (pureM v_coloring) fun (x2 : (List Int)) => pureM (x2.length : Int)) fun (x4 : Int) => m__law_tuples x3 x4)) fun (x26 : (List (List Int))) => forM' (fun (b6 : ((List (List Int)))) (y5 : (List Int)) => (Pz.bindM (Pz.bindM (Pz.bindM (pureM y5) fun (x20 : (List Int)) => compM (fun (y7 : Int) => (Pz.bindM (Pz.bindM (pureM v_coloring) fun (x10 : (List Int)) => (Pz.bindM (Pz.bindM (pureM y7) fun (x8 : Int) => (Pz.bindM (pureM (1 : Int)) fun (x9 : Int) => pureM (x8 - x9))) fun (x11 : Int) => optM (atI x10 x11))) fun (x18 : Int) => (Pz.bindM (Pz.bindM (pureM v_coloring) fun (x16 : (List Int)) => (Pz.bindM (Pz.bindM (Pz.bindM (pureM y5) fun (x12 : (List Int)) => (Pz.bindM (pureM (0 : Int)) fun (x13 : Int) => optM (atI x12 x13))) fun (x14 : Int) => (Pz.bindM (pureM (1 : Int)) fun (x15 : Int) => pureM (x14 - x15))) fun (x17 : Int) => optM (atI x16 x17))) fun (x19 : Int) => pureM (!decide (x18 = x19))))) (fun (y7 : Int) => (pureM y7)) x20) fun (x21 : (List Int)) => (Pz.bindM (smallM (pureM ([] : List Int))) fun (x22 : (List Int)) => pureM (decide (x21 = x22)))) fun (x23 : Bool) => if x23 then (Pz.bindM (Pz.bindM (pureM y5) fun (x25 : (List Int)) => appM b6 x25) fun (r24 : (List (List Int))) => (pureM r24)) else (pureM b6))) x26 r1) fun (r27 : ((List (List Int)))) => (pureM r27)))
theorem ok__law_found {f : Addr} {fd : FuncData} (F : Fun K "_law_found" "_law_found" s__law_found f fd) (B : Bl mg)
    {f__law_tuples : Addr} {d__law_tuples : FuncData} (C__law_tuples : Cal K mg "_law_tuples" f__law_tuples d__law_tuples ["shape", "many"]) (F__law_tuples : FnG P w K mg base 1 f__law_tuples d__law_tuples ["shape", "many"] (SpM (fun p : Int × Int × Unit => [.fz (eInt p.1), .fz (eInt p.2.1)]) (eL (eT eInt)) (fun p : Int × Int × Unit => m__law_tuples p.1 p.2.1))) :
    FnG P w K mg base 2 f fd ["shape", "coloring"] (SpM (fun p : Int × (List Int) × Unit => [.fz (eInt p.1), .fz ((eT eInt) p.2.1)]) (eL (eT eInt)) (fun p : Int × (List Int) × Unit => m__law_found p.1 p.2.1)) := by
  refine g_ok F sc__law_found (fun p : Int × (List Int) × Unit => [.fz (eInt p.1), .fz ((eT eInt) p.2.1)]) (eL (eT eInt)) (fun p : Int × (List Int) × Unit => m__law_found p.1 p.2.1) (fun p => [.fz (eInt p.1), .fz ((eT eInt) p.2.1), .un, .un, .un]) (fun _ => rfl) (fun _ => rfl) ?_
  intro cdv A above s H E R p hG hr
  obtain ⟨v_shape, v_coloring, uu⟩ := p
  have sc := sc__law_found
  exact (s_step (Γ1 := fun (r1 : (List (List Int))) => [.fz (eInt v_shape), .fz ((eT eInt) v_coloring), .ow ((eL (eT eInt)) r1), .un, .un]) (q_setF 2 (f_list l_nil) sc.nd) (fun (r1 : (List (List Int))) => (s_step (Γ1 := (fun (b : ((List (List Int)))) => [.fz (eInt v_shape), .fz ((eT eInt) v_coloring), .ow ((eL (eT eInt)) b), .un, .un])) (q_for (set := (st1 3 (eT eInt))) (is := [3]) (fun (b : ((List (List Int)))) => [.fz (eInt v_shape), .fz ((eT eInt) v_coloring), .ow ((eL (eT eInt)) b), .un, .un]) r1 (fun (b6 : ((List (List Int)))) (y5 : (List Int)) => (Pz.bindM (Pz.bindM (Pz.bindM (pureM y5) fun (x20 : (List Int)) => compM (fun (y7 : Int) => (Pz.bindM (Pz.bindM (pureM v_coloring) fun (x10 : (List Int)) => (Pz.bindM (Pz.bindM (pureM y7) fun (x8 : Int) => (Pz.bindM (pureM (1 : Int)) fun (x9 : Int) => pureM (x8 - x9))) fun (x11 : Int) => optM (atI x10 x11))) fun (x18 : Int) => (Pz.bindM (Pz.bindM (pureM v_coloring) fun (x16 : (List Int)) => (Pz.bindM (Pz.bindM (Pz.bindM (pureM y5) fun (x12 : (List Int)) => (Pz.bindM (pureM (0 : Int)) fun (x13 : Int) => optM (atI x12 x13))) fun (x14 : Int) => (Pz.bindM (pureM (1 : Int)) fun (x15 : Int) => pureM (x14 - x15))) fun (x17 : Int) => optM (atI x16 x17))) fun (x19 : Int) => pureM (!decide (x18 = x19))))) (fun (y7 : Int) => (pureM y7)) x20) fun (x21 : (List Int)) => (Pz.bindM (smallM (pureM ([] : List Int))) fun (x22 : (List Int)) => pureM (decide (x21 = x22)))) fun (x23 : Bool) => if x23 then (Pz.bindM (Pz.bindM (pureM y5) fun (x25 : (List Int)) => appM b6 x25) fun (r24 : (List (List Int))) => (pureM r24)) else (pureM b6))) PassesOwn.never rfl (i_list (e_c2 (F__law_tuples.mono (by decide)) hG hr C__law_tuples.mg C__law_tuples.kp C__law_tuples.bd (e_var 0 eInt v_shape) (e_lenT B.b_len bt_len (e_var 1 (eT eInt) v_coloring)))) (g1 3 (eT eInt) sc.nd) noow1 (.eq (.eq (.eq (.un (.un .nil))))) (fun (b6 : ((List (List Int)))) (y5 : (List Int)) => (s_ifend (t_eqP (n := 1) hr (Dc.lst Dc.int) (f_e (f_lc (set := (st1 4 eInt)) (is := [4]) [("x", 4)] (fun (y7 : Int) => (Pz.bindM (Pz.bindM (pureM v_coloring) fun (x10 : (List Int)) => (Pz.bindM (Pz.bindM (pureM y7) fun (x8 : Int) => (Pz.bindM (pureM (1 : Int)) fun (x9 : Int) => pureM (x8 - x9))) fun (x11 : Int) => optM (atI x10 x11))) fun (x18 : Int) => (Pz.bindM (Pz.bindM (pureM v_coloring) fun (x16 : (List Int)) => (Pz.bindM (Pz.bindM (Pz.bindM (pureM y5) fun (x12 : (List Int)) => (Pz.bindM (pureM (0 : Int)) fun (x13 : Int) => optM (atI x12 x13))) fun (x14 : Int) => (Pz.bindM (pureM (1 : Int)) fun (x15 : Int) => pureM (x14 - x15))) fun (x17 : Int) => optM (atI x16 x17))) fun (x19 : Int) => pureM (!decide (x18 = x19))))) (fun (y7 : Int) => (pureM y7)) rfl sc.nd (i_tup (e_var 3 (eT eInt) y5)) (blkOk_by (N := N__law_found) (sc := (defScope s__law_found)) (by decide +kernel)) (fun _ _ _ _ _ => (g1 4 eInt sc.nd)) (fun _ _ _ _ _ (y7 : Int) => (c_one (t_neI (e_ixT (e_var 1 (eT eInt) v_coloring) (e_sub (e_var 4 eInt y7) e_int)) (e_ixT (e_var 1 (eT eInt) v_coloring) (e_sub (e_ixT (e_var 3 (eT eInt) y5) e_int) e_int))))) (fun _ _ _ _ _ (y7 : Int) => (e_var 4 eInt y7)) noow1 sm1 (fun _ h => h) (noOw rfl))) (f_e (f_list l_nil))) (s_step (Γ1 := fun (r24 : (List (List Int))) => [.fz (eInt v_shape), .fz ((eT eInt) v_coloring), .ow ((eL (eT eInt)) r24), .fz ((eT eInt) y5), .un]) (q_app 2 b6 (e_var 3 (eT eInt) y5)) (fun (r24 : (List (List Int))) => (s_nilN (Γb := (fun (b : ((List (List Int)))) => [.fz (eInt v_shape), .fz ((eT eInt) v_coloring), .ow ((eL (eT eInt)) b), .un, .un])) r24 (.eq (.eq (.eq (.un (.un .nil)))))))) (s_nilN (Γb := (fun (b : ((List (List Int)))) => [.fz (eInt v_shape), .fz ((eT eInt) v_coloring), .ow ((eL (eT eInt)) b), .un, .un])) b6 (.eq (.eq (.eq (.un (.un .nil))))))))) (fun (r27 : ((List (List Int)))) => (s_low (Γ' := [.fz (eInt v_shape), .fz ((eT eInt) v_coloring), .fz ((eL (eT eInt)) r27), .un, .un]) (.eq (.eq (.fr (.un (.un .nil))))) (s_ret0 (e_var 2 (eL (eT eInt)) r27)))))))

abbrev s__law_fault : Stmt := topS 19
def N__law_fault : List Str := ["shape", "coloring", "value", "some", "wrong", "x", "i"]
theorem sc__law_fault : FnScope N__law_fault ["shape", "coloring", "value"] (defScope s__law_fault) := ⟨rfl, rfl, rfl, by decide +kernel, rfl, by decide +kernel, by decide +kernel⟩
def m__law_fault (v_shape : Int) (v_coloring : (List Int)) (v_value : PyData) : M PyData := (Pz.bindM (Pz.bindM (Pz.bindM (Pz.bindM (pureM v_value) fun (x1 : PyData) => pureM (isTy "tuple" (eD x1))) fun (x2 : Bool) => pureM (!x2)) fun (x16 : Bool) => if x16 then pureM true else (Pz.bindM (Pz.bindM (Pz.bindM (Pz.bindM (pureM v_value) fun (x8 : PyData) => optM (asTup x8)) fun (x10 : (List PyData)) => (Pz.bindM (pureM (none : Option Int)) fun (x11 : (Option Int)) => (Pz.bindM (Pz.bindM (pureM (1 : Int)) fun (x9 : Int) => pureM (some x9)) fun (x12 : (Option Int)) => pureM (cutL x10 x11 x12)))) fun (x13 : (List PyData)) => optM (reprO ((eT eD) x13))) fun (x14 : Str) => (Pz.bindM (Pz.bindM (Pz.bindM (pureM ("('free',)" : Str)) fun (x5 : Str) => (Pz.bindM (Pz.bindM (pureM ("('found',)" : Str)) fun (x3 : Str) => (Pz.bindM (pureM ()) fun (x4 : Unit) => pureM (x3, x4))) fun (x6 : (Str × Unit)) => pureM (x5, x6))) fun (x7 : (Str × Str × Unit)) => pureM ((fun p : (Str × Str × Unit) => [p.1, p.2.1]) x7)) fun (x15 : (List Str)) => pureM (!decide (x14 ∈ x15))))) fun (x17 : Bool) => if x17 then (Pz.bindM (Pz.bindM (pureM ("form" : Str)) fun (x18 : Str) => (Pz.bindM (pureM ()) fun (x19 : Unit) => pureM (x18, x19))) fun (x20 : (Str × Unit)) => pureM ((eP (eC eStr eU)) x20)) else (Pz.bindM (Pz.bindM (Pz.bindM (Pz.bindM (pureM v_value) fun (x21 : PyData) => optM (asTup x21)) fun (x22 : (List PyData)) => (Pz.bindM (pureM (0 : Int)) fun (x23 : Int) => optM (atI x22 x23))) fun (x24 : PyData) => (Pz.bindM (pureM ("free" : Str)) fun (x25 : Str) => optM (eqD (eD x24) (eStr x25)))) fun (x26 : Bool) => if x26 then (Pz.bindM (Pz.bindM (pureM v_shape) fun (x28 : Int) => (Pz.bindM (pureM v_coloring) fun (x29 : (List Int)) => m__law_found x28 x29)) fun (r27 : (List (List Int))) => (Pz.bindM (Pz.bindM (Pz.bindM (Pz.bindM (pureM v_value) fun (x30 : PyData) => optM (asTup x30)) fun (x31 : (List PyData)) => pureM (x31.length : Int)) fun (x32 : Int) => (Pz.bindM (pureM (1 : Int)) fun (x33 : Int) => pureM (!decide (x32 = x33)))) fun (x48 : Bool) => if x48 then (Pz.bindM (Pz.bindM (pureM ("form" : Str)) fun (x34 : Str) => (Pz.bindM (pureM ()) fun (x35 : Unit) => pureM (x34, x35))) fun (x36 : (Str × Unit)) => pureM ((eP (eC eStr eU)) x36)) else (Pz.bindM (Pz.bindM (pureM r27) fun (x37 : (List (List Int))) => (Pz.bindM (smallM (pureM ([] : List (List Int)))) fun (x38 : (List (List Int))) => pureM (!decide (x37 = x38)))) fun (x47 : Bool) => if x47 then (Pz.bindM (Pz.bindM (pureM ("found" : Str)) fun (x43 : Str) => (Pz.bindM (Pz.bindM (Pz.bindM (pureM r27) fun (x39 : (List (List Int))) => (Pz.bindM (pureM (0 : Int)) fun (x40 : Int) => optM (atI x39 x40))) fun (x41 : (List Int)) => (Pz.bindM (pureM ()) fun (x42 : Unit) => pureM (x41, x42))) fun (x44 : ((List Int) × Unit)) => pureM (x43, x44))) fun (x45 : (Str × (List Int) × Unit)) => pureM ((eP (eC eStr (eC (eT eInt) eU))) x45)) else (Pz.bindM (pureM ()) fun (x46 : Unit) => pureM (eNon x46))))) else (Pz.bindM (Pz.bindM (Pz.bindM (Pz.bindM (Pz.bindM (pureM v_value) fun (x49 : PyData) => optM (asTup x49)) fun (x50 : (List PyData)) => pureM (x50.length : Int)) fun (x51 : Int) => (Pz.bindM (pureM (2 : Int)) fun (x52 : Int) => pureM (!decide (x51 = x52)))) fun (x58 : Bool) => if x58 then pureM true else (Pz.bindM (Pz.bindM (Pz.bindM (Pz.bindM (pureM v_value) fun (x53 : PyData) => optM (asTup x53)) fun (x54 : (List PyData)) => (Pz.bindM (pureM (1 : Int)) fun (x55 : Int) => optM (atI x54 x55))) fun (x56 : PyData) => pureM (isTy "tuple" (eD x56))) fun (x57 : Bool) => pureM (!x57))) fun (x59 : Bool) => if x59 then (Pz.bindM (Pz.bindM (pureM ("form" : Str)) fun (x60 : Str) => (Pz.bindM (pureM ()) fun (x61 : Unit) => pureM (x60, x61))) fun (x62 : (Str × Unit)) => pureM ((eP (eC eStr eU)) x62)) else (Pz.bindM (Pz.bindM (Pz.bindM (Pz.bindM (Pz.bindM (Pz.bindM (pureM v_value) fun (x63 : PyData) => optM (asTup x63)) fun (x64 : (List PyData)) => (Pz.bindM (pureM (1 : Int)) fun (x65 : Int) => optM (atI x64 x65))) fun (x66 : PyData) => optM (asTup x66)) fun (x72 : (List PyData)) => compM (fun (y67 : PyData) => (Pz.bindM (Pz.bindM (Pz.bindM (pureM y67) fun (x68 : PyData) => pureM (isTy "int" (eD x68))) fun (x69 : Bool) => pureM (!x69)) fun (x71 : Bool) => if x71 then pureM true else (Pz.bindM (pureM y67) fun (x70 : PyData) => pureM (isTy "bool" (eD x70))))) (fun (y67 : PyData) => (pureM y67)) x72) fun (x75 : (List PyData)) => (Pz.bindM (smallM (pureM ([] : List PyData))) fun (x76 : (List PyData)) => optM ((eqD ((eL eD) x75) ((eL eD) x76)).map (!·)))) fun (x77 : Bool) => if x77 then (Pz.bindM (Pz.bindM (pureM ("form" : Str)) fun (x78 : Str) => (Pz.bindM (pureM ()) fun (x79 : Unit) => pureM (x78, x79))) fun (x80 : (Str × Unit)) => pureM ((eP (eC eStr eU)) x80)) else (Pz.bindM (Pz.bindM (Pz.bindM (Pz.bindM (pureM v_value) fun (x84 : PyData) => optM (asTup x84)) fun (x85 : (List PyData)) => (Pz.bindM (pureM (1 : Int)) fun (x86 : Int) => optM (atI x85 x86))) fun (x87 : PyData) => (Pz.bindM (Pz.bindM (pureM v_shape) fun (x82 : Int) => (Pz.bindM (Pz.bindM (pureM v_coloring) fun (x81 : (List Int)) => pureM (x81.length : Int)) fun (x83 : Int) => m__law_tuples x82 x83)) fun (x88 : (List (List Int))) => optM ((inD (eD x87) ((eL (eT eInt)) x88)).map (!·)))) fun (x89 : Bool) => if x89 then (Pz.bindM (Pz.bindM (pureM ("shape" : Str)) fun (x90 : Str) => (Pz.bindM (pureM ()) fun (x91 : Unit) => pureM (x90, x91))) fun (x92 : (Str × Unit)) => pureM ((eP (eC eStr eU)) x92)) else (Pz.bindM (Pz.bindM (Pz.bindM (Pz.bindM (Pz.bindM (Pz.bindM (pureM v_value) fun (x94 : PyData) => optM (asTup x94)) fun (x95 : (List PyData)) => (Pz.bindM (pureM (1 : Int)) fun (x96 : Int) => optM (atI x95 x96))) fun (x97 : PyData) => optM (asTup x97)) fun (x98 : (List PyData)) => pureM (enumL x98)) fun (x118 : (List (Int × PyData × Unit))) => compM (fun (y99 : (Int × PyData × Unit)) => (Pz.bindM (Pz.bindM (pureM v_coloring) fun (x103 : (List Int)) => (Pz.bindM (Pz.bindM (Pz.bindM (pureM y99.2.1) fun (x100 : PyData) => optM (asInt x100)) fun (x101 : Int) => (Pz.bindM (pureM (1 : Int)) fun (x102 : Int) => pureM (x101 - x102))) fun (x104 : Int) => optM (atI x103 x104))) fun (x116 : Int) => (Pz.bindM (Pz.bindM (pureM v_coloring) fun (x114 : (List Int)) => (Pz.bindM (Pz.bindM (Pz.bindM (Pz.bindM (Pz.bindM (Pz.bindM (Pz.bindM (pureM v_value) fun (x105 : PyData) => optM (asTup x105)) fun (x106 : (List PyData)) => (Pz.bindM (pureM (1 : Int)) fun (x107 : Int) => optM (atI x106 x107))) fun (x108 : PyData) => optM (asTup x108)) fun (x109 : (List PyData)) => (Pz.bindM (pureM (0 : Int)) fun (x110 : Int) => optM (atI x109 x110))) fun (x111 : PyData) => optM (asInt x111)) fun (x112 : Int) => (Pz.bindM (pureM (1 : Int)) fun (x113 : Int) => pureM (x112 - x113))) fun (x115 : Int) => optM (atI x114 x115))) fun (x117 : Int) => pureM (!decide (x116 = x117))))) (fun (y99 : (Int × PyData × Unit)) => (pureM y99.1)) x118) fun (r93 : (List Int)) => (Pz.bindM (Pz.bindM (pureM r93) fun (x119 : (List Int)) => (Pz.bindM (smallM (pureM ([] : List Int))) fun (x120 : (List Int)) => pureM (!decide (x119 = x120)))) fun (x129 : Bool) => if x129 then (Pz.bindM (Pz.bindM (pureM ("colors" : Str)) fun (x125 : Str) => (Pz.bindM (Pz.bindM (Pz.bindM (pureM r93) fun (x121 : (List Int)) => (Pz.bindM (pureM (0 : Int)) fun (x122 : Int) => optM (atI x121 x122))) fun (x123 : Int) => (Pz.bindM (pureM ()) fun (x124 : Unit) => pureM (x123, x124))) fun (x126 : (Int × Unit)) => pureM (x125, x126))) fun (x127 : (Str × Int × Unit)) => pureM ((eP (eC eStr (eC eInt eU))) x127)) else (Pz.bindM (pureM ()) fun (x128 : Unit) => pureM (eNon x128)))))))))
theorem ok__law_fault {f : Addr} {fd : FuncData} (F : Fun K "_law_fault" "_law_fault" s__law_fault f fd) (B : Bl mg)
    {f__law_found : Addr} {d__law_found : FuncData} (C__law_found : Cal K mg "_law_found" f__law_found d__law_found ["shape", "coloring"]) (F__law_found : FnG P w K mg base 2 f__law_found d__law_found ["shape", "coloring"] (SpM (fun p : Int × (List Int) × Unit => [.fz (eInt p.1), .fz ((eT eInt) p.2.1)]) (eL (eT eInt)) (fun p : Int × (List Int) × Unit => m__law_found p.1 p.2.1)))
    {f__law_tuples : Addr} {d__law_tuples : FuncData} (C__law_tuples : Cal K mg "_law_tuples" f__law_tuples d__law_tuples ["shape", "many"]) (F__law_tuples : FnG P w K mg base 1 f__law_tuples d__law_tuples ["shape", "many"] (SpM (fun p : Int × Int × Unit => [.fz (eInt p.1), .fz (eInt p.2.1)]) (eL (eT eInt)) (fun p : Int × Int × Unit => m__law_tuples p.1 p.2.1))) :
    FnG P w K mg base 3 f fd ["shape", "coloring", "value"] (SpM (fun p : Int × (List Int) × PyData × Unit => [.fz (eInt p.1), .fz ((eT eInt) p.2.1), .fz (eD p.2.2.1)]) eD (fun p : Int × (List Int) × PyData × Unit => m__law_fault p.1 p.2.1 p.2.2.1)) := by
  refine g_ok F sc__law_fault (fun p : Int × (List Int) × PyData × Unit => [.fz (eInt p.1), .fz ((eT eInt) p.2.1), .fz (eD p.2.2.1)]) eD (fun p : Int × (List Int) × PyData × Unit => m__law_fault p.1 p.2.1 p.2.2.1) (fun p => [.fz (eInt p.1), .fz ((eT eInt) p.2.1), .fz (eD p.2.2.1), .un, .un, .un, .un]) (fun _ => rfl) (fun _ => rfl) ?_
  intro cdv A above s H E R p hG hr
  obtain ⟨v_shape, v_coloring, v_value, uu⟩ := p
  have sc := sc__law_fault
  exact (s_ifret1 (w_t (w_or (t_not (t_val (e_isi (ea := eD) (fun K d => kit_tuple d) B.b_isinstance B.b_tuple bt_tuple (e_var 2 eD v_value)))) (w_or1 (t_ninT (n := 0) hr Dc.str (e_repr (ea := (eT eD)) hr hG B.b_repr bt_repr (e_slT (e_dTup (e_var 2 eD v_value)) p_none (p_some e_int))) (e_enc (eb := (eT eStr)) (fun p : (Str × Str × Unit) => [p.1, p.2.1]) (e_tup (eC eStr (eC eStr eU)) (a_cons e_str (a_cons e_str a_nil)) (hl := fun _ => (by decide : 2 ≤ sizeLine))) (fun _ => rfl)))))) (s_ret0 (e_enc (eb := eD) (fun x => (eP (eC eStr eU)) x) (e_tup (eC eStr eU) (a_cons e_str a_nil) (hl := fun _ => (by decide : 1 ≤ sizeLine))) (fun _ => rfl))) (s_ifret1 (t_eqD hr (e_ixT (e_dTup (e_var 2 eD v_value)) e_int) e_str) (s_step (Γ1 := fun (r27 : (List (List Int))) => [.fz (eInt v_shape), .fz ((eT eInt) v_coloring), .fz (eD v_value), .fz ((eL (eT eInt)) r27), .un, .un, .un]) (q_set 3 (e_c2 (F__law_found.mono (by decide)) hG hr C__law_found.mg C__law_found.kp C__law_found.bd (e_var 0 eInt v_shape) (e_var 1 (eT eInt) v_coloring)) sc.nd) (fun (r27 : (List (List Int))) => (s_ret0 (e_if (t_neI (e_lenT B.b_len bt_len (e_dTup (e_var 2 eD v_value))) e_int) (e_enc (eb := eD) (fun x => (eP (eC eStr eU)) x) (e_tup (eC eStr eU) (a_cons e_str a_nil) (hl := fun _ => (by decide : 1 ≤ sizeLine))) (fun _ => rfl)) (e_if (t_neP (n := 2) hr (Dc.lst (Dc.tup Dc.int)) (e_var 3 (eL (eT eInt)) r27) (f_e (f_list l_nil))) (e_enc (eb := eD) (fun x => (eP (eC eStr (eC (eT eInt) eU))) x) (e_tup (eC eStr (eC (eT eInt) eU)) (a_cons e_str (a_cons (e_ixL (e_var 3 (eL (eT eInt)) r27) e_int) a_nil)) (hl := fun _ => (by decide : 2 ≤ sizeLine))) (fun _ => rfl)) (e_enc (eb := eD) (fun x => eNon x) e_non (fun _ => rfl))))))) (s_ifret1 (w_t (w_or (t_neI (e_lenT B.b_len bt_len (e_dTup (e_var 2 eD v_value))) e_int) (w_or1 (t_not (t_val (e_isi (ea := eD) (fun K d => kit_tuple d) B.b_isinstance B.b_tuple bt_tuple (e_ixT (e_dTup (e_var 2 eD v_value)) e_int))))))) (s_ret0 (e_enc (eb := eD) (fun x => (eP (eC eStr eU)) x) (e_tup (eC eStr eU) (a_cons e_str a_nil) (hl := fun _ => (by decide : 1 ≤ sizeLine))) (fun _ => rfl))) (s_ifret1 (t_neD hr (f_e (f_lc (set := (st1 5 eD)) (is := [5]) [("x", 5)] (fun (y67 : PyData) => (Pz.bindM (Pz.bindM (Pz.bindM (pureM y67) fun (x68 : PyData) => pureM (isTy "int" (eD x68))) fun (x69 : Bool) => pureM (!x69)) fun (x71 : Bool) => if x71 then pureM true else (Pz.bindM (pureM y67) fun (x70 : PyData) => pureM (isTy "bool" (eD x70))))) (fun (y67 : PyData) => (pureM y67)) rfl sc.nd (i_tup (e_dTup (e_ixT (e_dTup (e_var 2 eD v_value)) e_int))) (blkOk_by (N := N__law_fault) (sc := (defScope s__law_fault)) (by decide +kernel)) (fun _ _ _ _ _ => (g1 5 eD sc.nd)) (fun _ _ _ _ _ (y67 : PyData) => (c_one (w_t (w_or (t_not (t_val (e_isi (ea := eD) (fun K d => kit_int d) B.b_isinstance B.b_int bt_int (e_var 5 eD y67)))) (w_or1 (t_val (e_isi (ea := eD) (fun K d => kit_bool d) B.b_isinstance B.b_bool bt_bool (e_var 5 eD y67)))))))) (fun _ _ _ _ _ (y67 : PyData) => (e_var 5 eD y67)) noow1 sm1 (fun _ h => h) (noOw rfl))) (f_e (f_list l_nil))) (s_ret0 (e_enc (eb := eD) (fun x => (eP (eC eStr eU)) x) (e_tup (eC eStr eU) (a_cons e_str a_nil) (hl := fun _ => (by decide : 1 ≤ sizeLine))) (fun _ => rfl))) (s_ifret1 (t_ninD hr (e_ixT (e_dTup (e_var 2 eD v_value)) e_int) (e_c2 (F__law_tuples.mono (by decide)) hG hr C__law_tuples.mg C__law_tuples.kp C__law_tuples.bd (e_var 0 eInt v_shape) (e_lenT B.b_len bt_len (e_var 1 (eT eInt) v_coloring)))) (s_ret0 (e_enc (eb := eD) (fun x => (eP (eC eStr eU)) x) (e_tup (eC eStr eU) (a_cons e_str a_nil) (hl := fun _ => (by decide : 1 ≤ sizeLine))) (fun _ => rfl))) (s_step (Γ1 := fun (r93 : (List Int)) => [.fz (eInt v_shape), .fz ((eT eInt) v_coloring), .fz (eD v_value), .un, .fz ((eL eInt) r93), .un, .un]) (q_setLcE 4 (set := (st2 6 eInt 5 eD)) (is := [6, 5]) [("i", 6), ("x", 5)] (fun (y99 : (Int × PyData × Unit)) => (Pz.bindM (Pz.bindM (pureM v_coloring) fun (x103 : (List Int)) => (Pz.bindM (Pz.bindM (Pz.bindM (pureM y99.2.1) fun (x100 : PyData) => optM (asInt x100)) fun (x101 : Int) => (Pz.bindM (pureM (1 : Int)) fun (x102 : Int) => pureM (x101 - x102))) fun (x104 : Int) => optM (atI x103 x104))) fun (x116 : Int) => (Pz.bindM (Pz.bindM (pureM v_coloring) fun (x114 : (List Int)) => (Pz.bindM (Pz.bindM (Pz.bindM (Pz.bindM (Pz.bindM (Pz.bindM (Pz.bindM (pureM v_value) fun (x105 : PyData) => optM (asTup x105)) fun (x106 : (List PyData)) => (Pz.bindM (pureM (1 : Int)) fun (x107 : Int) => optM (atI x106 x107))) fun (x108 : PyData) => optM (asTup x108)) fun (x109 : (List PyData)) => (Pz.bindM (pureM (0 : Int)) fun (x110 : Int) => optM (atI x109 x110))) fun (x111 : PyData) => optM (asInt x111)) fun (x112 : Int) => (Pz.bindM (pureM (1 : Int)) fun (x113 : Int) => pureM (x112 - x113))) fun (x115 : Int) => optM (atI x114 x115))) fun (x117 : Int) => pureM (!decide (x116 = x117))))) (fun (y99 : (Int × PyData × Unit)) => (pureM y99.1)) rfl sc.nd (sw_true rfl rfl rfl (by decide +kernel)) (i_enumT B.b_enumerate (e_dTup (e_ixT (e_dTup (e_var 2 eD v_value)) e_int))) (blkOk_by (N := N__law_fault) (sc := (defScope s__law_fault)) (by decide +kernel)) (fun _ _ _ _ _ => (g2 6 5 eInt eD rfl sc.nd)) (fun _ _ _ _ _ (y99 : (Int × PyData × Unit)) => (c_one (t_neI (e_ixT (e_var 1 (eT eInt) v_coloring) (e_sub (e_dInt (e_var 5 eD y99.2.1)) e_int)) (e_ixT (e_var 1 (eT eInt) v_coloring) (e_sub (e_dInt (e_ixT (e_dTup (e_ixT (e_dTup (e_var 2 eD v_value)) e_int)) e_int)) e_int))))) (fun _ _ _ _ _ (y99 : (Int × PyData × Unit)) => (e_var 6 eInt y99.1)) noow2 sm2 (fun _ h => h) (noOw rfl)) (fun (r93 : (List Int)) => (s_ret0 (e_if (t_neP (n := 1) hr (Dc.lst Dc.int) (e_var 4 (eL eInt) r93) (f_e (f_list l_nil))) (e_enc (eb := eD) (fun x => (eP (eC eStr (eC eInt eU))) x) (e_tup (eC eStr (eC eInt eU)) (a_cons e_str (a_cons (e_ixL (e_var 4 (eL eInt) r93) e_int) a_nil)) (hl := fun _ => (by decide : 2 ≤ sizeLine))) (fun _ => rfl)) (e_enc (eb := eD) (fun x => eNon x) e_non (fun _ => rfl)))))))))))

abbrev s_law : Stmt := topS 20
def N_law : List Str := ["script", "source", "lap", "shape", "many", "coloring", "kept", "told", "some", "every", "odd", "row", "values", "value", "fault", "shown", "x", "one"]
theorem sc_law : FnScope N_law ["script"] (defScope s_law) := ⟨rfl, rfl, rfl, by decide +kernel, rfl, by decide +kernel, by decide +kernel⟩
def m_law : M Bool := (Pz.bindM (Pz.bindM (Pz.bindM (pureM (6 : Int)) fun (x1 : Int) => rangeM 0 x1) fun (x403 : (List Int)) => forO (fun (b3 : Unit) (y2 : Int) => (Pz.bindM (Pz.bindM (Pz.bindM (smallM (Pz.bindM (pureM (0 : Int)) fun (x15 : Int) => (Pz.bindM (Pz.bindM (pureM (0 : Int)) fun (x13 : Int) => (Pz.bindM (Pz.bindM (pureM (2 : Int)) fun (x11 : Int) => (Pz.bindM (Pz.bindM (pureM (3 : Int)) fun (x9 : Int) => (Pz.bindM (Pz.bindM (pureM (3 : Int)) fun (x7 : Int) => (Pz.bindM (Pz.bindM (pureM (4 : Int)) fun (x5 : Int) => (Pz.bindM (pureM ([] : List Int)) fun (x6 : (List Int)) => pureM (x5 :: x6))) fun (x8 : (List Int)) => pureM (x7 :: x8))) fun (x10 : (List Int)) => pureM (x9 :: x10))) fun (x12 : (List Int)) => pureM (x11 :: x12))) fun (x14 : (List Int)) => pureM (x13 :: x14))) fun (x16 : (List Int)) => pureM (x15 :: x16)))) fun (x17 : (List Int)) => ofM x17) fun (x21 : Int) => (Pz.bindM (Pz.bindM (pureM (1 : Int)) fun (x19 : Int) => (Pz.bindM (Pz.bindM (pureM (14 : Int)) fun (x18 : Int) => m__law_pick x18) fun (x20 : Int) => pureM (x19 + x20))) fun (x22 : Int) => pureM (x21, x22))) fun (r4 : (Int × Int)) => (Pz.bindM (Pz.bindM (Pz.bindM (Pz.bindM (pureM r4.2) fun (x24 : Int) => rangeM 0 x24) fun (x27 : (List Int)) => compM (fun (y25 : Int) => (pureM true)) (fun (y25 : Int) => (Pz.bindM (pureM (3 : Int)) fun (x26 : Int) => m__law_pick x26)) x27) fun (x28 : (List Int)) => optM (some x28)) fun (r23 : (List Int)) => (Pz.bindM (Pz.bindM (Pz.bindM (Pz.bindM (pureM (2 : Int)) fun (x29 : Int) => m__law_pick x29) fun (x30 : Int) => (Pz.bindM (pureM (0 : Int)) fun (x31 : Int) => pureM (decide (x30 = x31)))) fun (x32 : Bool) => if x32 then (Pz.bindM (Pz.bindM (Pz.bindM (Pz.bindM (smallM (Pz.bindM (smallM (Pz.bindM (pureM (0 : Int)) fun (x80 : Int) => (Pz.bindM (Pz.bindM (pureM (1 : Int)) fun (x78 : Int) => (Pz.bindM (Pz.bindM (pureM (1 : Int)) fun (x76 : Int) => (Pz.bindM (Pz.bindM (pureM (0 : Int)) fun (x74 : Int) => (Pz.bindM (pureM ([] : List Int)) fun (x75 : (List Int)) => pureM (x74 :: x75))) fun (x77 : (List Int)) => pureM (x76 :: x77))) fun (x79 : (List Int)) => pureM (x78 :: x79))) fun (x81 : (List Int)) => pureM (x80 :: x81)))) fun (x82 : (List Int)) => (Pz.bindM (Pz.bindM (smallM (Pz.bindM (pureM (0 : Int)) fun (x70 : Int) => (Pz.bindM (Pz.bindM (pureM (0 : Int)) fun (x68 : Int) => (Pz.bindM (Pz.bindM (pureM (1 : Int)) fun (x66 : Int) => (Pz.bindM (Pz.bindM (pureM (1 : Int)) fun (x64 : Int) => (Pz.bindM (pureM ([] : List Int)) fun (x65 : (List Int)) => pureM (x64 :: x65))) fun (x67 : (List Int)) => pureM (x66 :: x67))) fun (x69 : (List Int)) => pureM (x68 :: x69))) fun (x71 : (List Int)) => pureM (x70 :: x71)))) fun (x72 : (List Int)) => (Pz.bindM (Pz.bindM (smallM (Pz.bindM (pureM (0 : Int)) fun (x60 : Int) => (Pz.bindM (Pz.bindM (pureM (1 : Int)) fun (x58 : Int) => (Pz.bindM (Pz.bindM (pureM (2 : Int)) fun (x56 : Int) => (Pz.bindM (pureM ([] : List Int)) fun (x57 : (List Int)) => pureM (x56 :: x57))) fun (x59 : (List Int)) => pureM (x58 :: x59))) fun (x61 : (List Int)) => pureM (x60 :: x61)))) fun (x62 : (List Int)) => (Pz.bindM (pureM ([] : List (List Int))) fun (x63 : (List (List Int))) => pureM (x62 :: x63))) fun (x73 : (List (List Int))) => pureM (x72 :: x73))) fun (x83 : (List (List Int))) => pureM (x82 :: x83)))) fun (x84 : (List (List Int))) => ofM x84) fun (x85 : (List Int)) => (Pz.bindM (pureM (5 : Int)) fun (x86 : Int) => optM (repTO x85 x86))) fun (x88 : (List Int)) => (Pz.bindM (pureM (none : Option Int)) fun (x89 : (Option Int)) => (Pz.bindM (Pz.bindM (pureM r4.2) fun (x87 : Int) => pureM (some x87)) fun (x90 : (Option Int)) => pureM (cutL x88 x89 x90)))) fun (r33 : (List Int)) => (pureM r33)) else (pureM r23)) fun (r91 : ((List Int))) => (Pz.bindM (Pz.bindM (Pz.bindM (pureM r91) fun (x93 : (List Int)) => optM (reprO ((eT eInt) x93))) fun (x96 : Str) => (Pz.bindM (Pz.bindM (pureM r4.1) fun (x94 : Int) => (Pz.bindM (pureM r91) fun (x95 : (List Int)) => m_free_paper x94 x95)) fun (x97 : PyData) => pureM (x96, x97))) fun (r92 : (Str × PyData)) => (Pz.bindM (Pz.bindM (pureM r4.1) fun (x99 : Int) => (Pz.bindM (pureM r91) fun (x100 : (List Int)) => m__law_found x99 x100)) fun (r98 : (List (List Int))) => (Pz.bindM (Pz.bindM (Pz.bindM (pureM r92.2) fun (x101 : PyData) => optM (reprO (eD x101))) fun (x124 : Str) => (Pz.bindM (Pz.bindM (Pz.bindM (Pz.bindM (pureM r98) fun (x102 : (List (List Int))) => (Pz.bindM (smallM (pureM ([] : List (List Int)))) fun (x103 : (List (List Int))) => pureM (!decide (x102 = x103)))) fun (x122 : Bool) => if x122 then (Pz.bindM (Pz.bindM (pureM ("found" : Str)) fun (x116 : Str) => (Pz.bindM (Pz.bindM (Pz.bindM (pureM r98) fun (x112 : (List (List Int))) => (Pz.bindM (pureM (0 : Int)) fun (x113 : Int) => optM (atI x112 x113))) fun (x114 : (List Int)) => (Pz.bindM (pureM ()) fun (x115 : Unit) => pureM (x114, x115))) fun (x117 : ((List Int) × Unit)) => pureM (x116, x117))) fun (x118 : (Str × (List Int) × Unit)) => pureM ((eP (eC eStr (eC (eT eInt) eU))) x118)) else (Pz.bindM (Pz.bindM (pureM ("free" : Str)) fun (x119 : Str) => (Pz.bindM (pureM ()) fun (x120 : Unit) => pureM (x119, x120))) fun (x121 : (Str × Unit)) => pureM ((eP (eC eStr eU)) x121))) fun (x123 : PyData) => optM (reprO (eD x123))) fun (x125 : Str) => pureM (!decide (x124 = x125)))) fun (x126 : Bool) => if x126 then Pz.bindM (pureM false) (fun (x402 : Bool) => pureM (Out.rt x402)) else (Pz.bindM (Pz.bindM (Pz.bindM (pureM r4.1) fun (x128 : Int) => (Pz.bindM (pureM r4.2) fun (x129 : Int) => m__law_tuples x128 x129)) fun (x162 : (List (List Int))) => (Pz.bindM (smallM (Pz.bindM (smallM (Pz.bindM (pureM (1 : Int)) fun (x158 : Int) => (Pz.bindM (Pz.bindM (pureM (2 : Int)) fun (x156 : Int) => (Pz.bindM (Pz.bindM (pureM (4 : Int)) fun (x154 : Int) => (Pz.bindM (pureM ([] : List Int)) fun (x155 : (List Int)) => pureM (x154 :: x155))) fun (x157 : (List Int)) => pureM (x156 :: x157))) fun (x159 : (List Int)) => pureM (x158 :: x159)))) fun (x160 : (List Int)) => (Pz.bindM (Pz.bindM (smallM (Pz.bindM (pureM (1 : Int)) fun (x150 : Int) => (Pz.bindM (Pz.bindM (pureM (1 : Int)) fun (x148 : Int) => (Pz.bindM (Pz.bindM (pureM (2 : Int)) fun (x146 : Int) => (Pz.bindM (pureM ([] : List Int)) fun (x147 : (List Int)) => pureM (x146 :: x147))) fun (x149 : (List Int)) => pureM (x148 :: x149))) fun (x151 : (List Int)) => pureM (x150 :: x151)))) fun (x152 : (List Int)) => (Pz.bindM (Pz.bindM (smallM (Pz.bindM (pureM r4.2) fun (x142 : Int) => (Pz.bindM (Pz.bindM (pureM r4.2) fun (x140 : Int) => (Pz.bindM (Pz.bindM (Pz.bindM (pureM (2 : Int)) fun (x136 : Int) => (Pz.bindM (pureM r4.2) fun (x137 : Int) => optM (mulO x136 x137))) fun (x138 : Int) => (Pz.bindM (pureM ([] : List Int)) fun (x139 : (List Int)) => pureM (x138 :: x139))) fun (x141 : (List Int)) => pureM (x140 :: x141))) fun (x143 : (List Int)) => pureM (x142 :: x143)))) fun (x144 : (List Int)) => (Pz.bindM (Pz.bindM (smallM (Pz.bindM (pureM (1 : Int)) fun (x132 : Int) => (Pz.bindM (pureM ([] : List Int)) fun (x133 : (List Int)) => pureM (x132 :: x133)))) fun (x134 : (List Int)) => (Pz.bindM (Pz.bindM (smallM (pureM ([] : List Int))) fun (x130 : (List Int)) => (Pz.bindM (pureM ([] : List (List Int))) fun (x131 : (List (List Int))) => pureM (x130 :: x131))) fun (x135 : (List (List Int))) => pureM (x134 :: x135))) fun (x145 : (List (List Int))) => pureM (x144 :: x145))) fun (x153 : (List (List Int))) => pureM (x152 :: x153))) fun (x161 : (List (List Int))) => pureM (x160 :: x161)))) fun (x163 : (List (List Int))) => optM (catO x162 x163))) fun (r127 : (List (List Int))) => (Pz.bindM (smallM (Pz.bindM (Pz.bindM (pureM ()) fun (x225 : Unit) => pureM (eNon x225)) fun (x226 : PyData) => (Pz.bindM (Pz.bindM (Pz.bindM (pureM true) fun (x222 : Bool) => pureM (eBool x222)) fun (x223 : PyData) => (Pz.bindM (Pz.bindM (Pz.bindM (pureM (0 : Int)) fun (x219 : Int) => pureM (eInt x219)) fun (x220 : PyData) => (Pz.bindM (Pz.bindM (Pz.bindM (pureM ("0" : Str)) fun (x216 : Str) => pureM (eStr x216)) fun (x217 : PyData) => (Pz.bindM (Pz.bindM (Pz.bindM (Pz.bindM (pureM true) fun (x211 : Bool) => (Pz.bindM (Pz.bindM (pureM (1 : Int)) fun (x209 : Int) => (Pz.bindM (Pz.bindM (pureM (2 : Int)) fun (x207 : Int) => (Pz.bindM (pureM ()) fun (x208 : Unit) => pureM (x207, x208))) fun (x210 : (Int × Unit)) => pureM (x209, x210))) fun (x212 : (Int × (Int × Unit))) => pureM (x211, x212))) fun (x213 : (Bool × Int × Int × Unit)) => pureM ((eP (eC eBool (eC eInt (eC eInt eU)))) x213)) fun (x214 : PyData) => (Pz.bindM (Pz.bindM (Pz.bindM (smallM (Pz.bindM (pureM (1 : Int)) fun (x202 : Int) => (Pz.bindM (Pz.bindM (pureM (1 : Int)) fun (x200 : Int) => (Pz.bindM (Pz.bindM (pureM (2 : Int)) fun (x198 : Int) => (Pz.bindM (pureM ([] : List Int)) fun (x199 : (List Int)) => pureM (x198 :: x199))) fun (x201 : (List Int)) => pureM (x200 :: x201))) fun (x203 : (List Int)) => pureM (x202 :: x203)))) fun (x204 : (List Int)) => pureM ((eL eInt) x204)) fun (x205 : PyData) => (Pz.bindM (Pz.bindM (Pz.bindM (Pz.bindM (pureM (0 : Int)) fun (x193 : Int) => (Pz.bindM (Pz.bindM (pureM (1 : Int)) fun (x191 : Int) => (Pz.bindM (Pz.bindM (pureM (1 : Int)) fun (x189 : Int) => (Pz.bindM (pureM ()) fun (x190 : Unit) => pureM (x189, x190))) fun (x192 : (Int × Unit)) => pureM (x191, x192))) fun (x194 : (Int × (Int × Unit))) => pureM (x193, x194))) fun (x195 : (Int × Int × Int × Unit)) => pureM ((eP (eC eInt (eC eInt (eC eInt eU)))) x195)) fun (x196 : PyData) => (Pz.bindM (Pz.bindM (Pz.bindM (Pz.bindM (Pz.bindM (pureM (1 : Int)) fun (x181 : Int) => pureM (-x181)) fun (x184 : Int) => (Pz.bindM (Pz.bindM (pureM (1 : Int)) fun (x182 : Int) => (Pz.bindM (pureM ()) fun (x183 : Unit) => pureM (x182, x183))) fun (x185 : (Int × Unit)) => pureM (x184, x185))) fun (x186 : (Int × Int × Unit)) => pureM ((eP (eC eInt (eC eInt eU))) x186)) fun (x187 : PyData) => (Pz.bindM (Pz.bindM (Pz.bindM (Pz.bindM (Pz.bindM (pureM (10 : Int)) fun (x170 : Int) => (Pz.bindM (pureM (20 : Int)) fun (x171 : Int) => optM (powO x170 x171))) fun (x176 : Int) => (Pz.bindM (Pz.bindM (pureM (1 : Int)) fun (x174 : Int) => (Pz.bindM (Pz.bindM (pureM (1 : Int)) fun (x172 : Int) => (Pz.bindM (pureM ()) fun (x173 : Unit) => pureM (x172, x173))) fun (x175 : (Int × Unit)) => pureM (x174, x175))) fun (x177 : (Int × (Int × Unit))) => pureM (x176, x177))) fun (x178 : (Int × Int × Int × Unit)) => pureM ((eP (eC eInt (eC eInt (eC eInt eU)))) x178)) fun (x179 : PyData) => (Pz.bindM (Pz.bindM (Pz.bindM (Pz.bindM (pureM ("1" : Str)) fun (x165 : Str) => (Pz.bindM (pureM ()) fun (x166 : Unit) => pureM (x165, x166))) fun (x167 : (Str × Unit)) => pureM ((eP (eC eStr eU)) x167)) fun (x168 : PyData) => (Pz.bindM (pureM ([] : List PyData)) fun (x169 : (List PyData)) => pureM (x168 :: x169))) fun (x180 : (List PyData)) => pureM (x179 :: x180))) fun (x188 : (List PyData)) => pureM (x187 :: x188))) fun (x197 : (List PyData)) => pureM (x196 :: x197))) fun (x206 : (List PyData)) => pureM (x205 :: x206))) fun (x215 : (List PyData)) => pureM (x214 :: x215))) fun (x218 : (List PyData)) => pureM (x217 :: x218))) fun (x221 : (List PyData)) => pureM (x220 :: x221))) fun (x224 : (List PyData)) => pureM (x223 :: x224))) fun (x227 : (List PyData)) => pureM (x226 :: x227)))) fun (r164 : (List PyData)) => (Pz.bindM (Pz.bindM (pureM r164) fun (x229 : (List PyData)) => ofM x229) fun (r228 : PyData) => (Pz.bindM (Pz.bindM (pureM r127) fun (x231 : (List (List Int))) => ofM x231) fun (r230 : (List Int)) => (Pz.bindM (smallM (Pz.bindM (pureM r92.2) fun (x281 : PyData) => (Pz.bindM (Pz.bindM (Pz.bindM (Pz.bindM (Pz.bindM (pureM r92.2) fun (x276 : PyData) => optM (asTup x276)) fun (x277 : (List PyData)) => optM (some x277)) fun (x278 : (List PyData)) => pureM ((eL eD) x278)) fun (x279 : PyData) => (Pz.bindM (Pz.bindM (Pz.bindM (Pz.bindM (Pz.bindM (pureM r92.2) fun (x269 : PyData) => optM (asTup x269)) fun (x271 : (List PyData)) => (Pz.bindM (Pz.bindM (Pz.bindM (pureM (0 : Int)) fun (x267 : Int) => (Pz.bindM (pureM ()) fun (x268 : Unit) => pureM (x267, x268))) fun (x270 : (Int × Unit)) => pureM ((fun p : (Int × Unit) => [eInt p.1]) x270)) fun (x272 : (List PyData)) => optM (catO x271 x272))) fun (x273 : (List PyData)) => pureM ((eT eD) x273)) fun (x274 : PyData) => (Pz.bindM (Pz.bindM (Pz.bindM (Pz.bindM (pureM ("free" : Str)) fun (x260 : Str) => (Pz.bindM (pureM ()) fun (x261 : Unit) => pureM (x260, x261))) fun (x262 : (Str × Unit)) => pureM ((eP (eC eStr eU)) x262)) fun (x263 : PyData) => (Pz.bindM (Pz.bindM (Pz.bindM (Pz.bindM (pureM ("found" : Str)) fun (x255 : Str) => (Pz.bindM (Pz.bindM (pureM r230) fun (x253 : (List Int)) => (Pz.bindM (pureM ()) fun (x254 : Unit) => pureM (x253, x254))) fun (x256 : ((List Int) × Unit)) => pureM (x255, x256))) fun (x257 : (Str × (List Int) × Unit)) => pureM ((eP (eC eStr (eC (eT eInt) eU))) x257)) fun (x258 : PyData) => (Pz.bindM (Pz.bindM (Pz.bindM (Pz.bindM (pureM ("found" : Str)) fun (x248 : Str) => (Pz.bindM (Pz.bindM (pureM r228) fun (x246 : PyData) => (Pz.bindM (pureM ()) fun (x247 : Unit) => pureM (x246, x247))) fun (x249 : (PyData × Unit)) => pureM (x248, x249))) fun (x250 : (Str × PyData × Unit)) => pureM ((eP (eC eStr (eC eD eU))) x250)) fun (x251 : PyData) => (Pz.bindM (Pz.bindM (Pz.bindM (Pz.bindM (pureM r228) fun (x241 : PyData) => (Pz.bindM (pureM ()) fun (x242 : Unit) => pureM (x241, x242))) fun (x243 : (PyData × Unit)) => pureM ((eP (eC eD eU)) x243)) fun (x244 : PyData) => (Pz.bindM (Pz.bindM (Pz.bindM (Pz.bindM (pureM ("found" : Str)) fun (x236 : Str) => (Pz.bindM (pureM ()) fun (x237 : Unit) => pureM (x236, x237))) fun (x238 : (Str × Unit)) => pureM ((eP (eC eStr eU)) x238)) fun (x239 : PyData) => (Pz.bindM (Pz.bindM (Pz.bindM (pureM ()) fun (x233 : Unit) => pureM (eNon x233)) fun (x234 : PyData) => (Pz.bindM (pureM ([] : List PyData)) fun (x235 : (List PyData)) => pureM (x234 :: x235))) fun (x240 : (List PyData)) => pureM (x239 :: x240))) fun (x245 : (List PyData)) => pureM (x244 :: x245))) fun (x252 : (List PyData)) => pureM (x251 :: x252))) fun (x259 : (List PyData)) => pureM (x258 :: x259))) fun (x264 : (List PyData)) => pureM (x263 :: x264))) fun (x275 : (List PyData)) => pureM (x274 :: x275))) fun (x280 : (List PyData)) => pureM (x279 :: x280))) fun (x282 : (List PyData)) => pureM (x281 :: x282)))) fun (r232 : (List PyData)) => (Pz.bindM (Pz.bindM (Pz.bindM (pureM ()) fun (x284 : (Unit)) => pureM ((eP eU) x284)) fun (x285 : PyData) => appM r232 x285) fun (r283 : (List PyData)) => (Pz.bindM (Pz.bindM (Pz.bindM (pureM r283) fun (x298 : (List PyData)) => (Pz.bindM (Pz.bindM (Pz.bindM (pureM r127) fun (x288 : (List (List Int))) => (Pz.bindM (pureM (none : Option Int)) fun (x289 : (Option Int)) => (Pz.bindM (Pz.bindM (pureM (6 : Int)) fun (x287 : Int) => pureM (some x287)) fun (x290 : (Option Int)) => pureM (cutL x288 x289 x290)))) fun (x297 : (List (List Int))) => compM (fun (y291 : (List Int)) => (pureM true)) (fun (y291 : (List Int)) => (Pz.bindM (Pz.bindM (pureM ("found" : Str)) fun (x294 : Str) => (Pz.bindM (Pz.bindM (pureM y291) fun (x292 : (List Int)) => (Pz.bindM (pureM ()) fun (x293 : Unit) => pureM (x292, x293))) fun (x295 : ((List Int) × Unit)) => pureM (x294, x295))) fun (x296 : (Str × (List Int) × Unit)) => pureM ((eP (eC eStr (eC (eT eInt) eU))) x296))) x297) fun (x299 : (List PyData)) => optM (catO x298 x299))) fun (x319 : (List PyData)) => (Pz.bindM (smallM (Pz.bindM (Pz.bindM (Pz.bindM (pureM ("found" : Str)) fun (x314 : Str) => (Pz.bindM (Pz.bindM (Pz.bindM (pureM r230) fun (x311 : (List Int)) => optM (some x311)) fun (x312 : (List Int)) => (Pz.bindM (pureM ()) fun (x313 : Unit) => pureM (x312, x313))) fun (x315 : ((List Int) × Unit)) => pureM (x314, x315))) fun (x316 : (Str × (List Int) × Unit)) => pureM ((eP (eC eStr (eC (eL eInt) eU))) x316)) fun (x317 : PyData) => (Pz.bindM (Pz.bindM (Pz.bindM (Pz.bindM (pureM ("found" : Str)) fun (x306 : Str) => (Pz.bindM (Pz.bindM (Pz.bindM (pureM r230) fun (x303 : (List Int)) => pureM x303.reverse) fun (x304 : (List Int)) => (Pz.bindM (pureM ()) fun (x305 : Unit) => pureM (x304, x305))) fun (x307 : ((List Int) × Unit)) => pureM (x306, x307))) fun (x308 : (Str × (List Int) × Unit)) => pureM ((eP (eC eStr (eC (eT eInt) eU))) x308)) fun (x309 : PyData) => (Pz.bindM (Pz.bindM (Pz.bindM (pureM ("free" : Str)) fun (x300 : Str) => pureM (eStr x300)) fun (x301 : PyData) => (Pz.bindM (pureM ([] : List PyData)) fun (x302 : (List PyData)) => pureM (x301 :: x302))) fun (x310 : (List PyData)) => pureM (x309 :: x310))) fun (x318 : (List PyData)) => pureM (x317 :: x318)))) fun (x320 : (List PyData)) => optM (catO x319 x320))) fun (r286 : (List PyData)) => (Pz.bindM (Pz.bindM (Pz.bindM (pureM r286) fun (x343 : (List PyData)) => (Pz.bindM (smallM (Pz.bindM (Pz.bindM (Pz.bindM (pureM ("Free" : Str)) fun (x338 : Str) => (Pz.bindM (pureM ()) fun (x339 : Unit) => pureM (x338, x339))) fun (x340 : (Str × Unit)) => pureM ((eP (eC eStr eU)) x340)) fun (x341 : PyData) => (Pz.bindM (Pz.bindM (Pz.bindM (Pz.bindM (pureM ("found" : Str)) fun (x333 : Str) => (Pz.bindM (Pz.bindM (pureM r230) fun (x331 : (List Int)) => (Pz.bindM (Pz.bindM (pureM r230) fun (x329 : (List Int)) => (Pz.bindM (pureM ()) fun (x330 : Unit) => pureM (x329, x330))) fun (x332 : ((List Int) × Unit)) => pureM (x331, x332))) fun (x334 : ((List Int) × ((List Int) × Unit))) => pureM (x333, x334))) fun (x335 : (Str × (List Int) × (List Int) × Unit)) => pureM ((eP (eC eStr (eC (eT eInt) (eC (eT eInt) eU)))) x335)) fun (x336 : PyData) => (Pz.bindM (Pz.bindM (Pz.bindM (Pz.bindM (pureM r228) fun (x324 : PyData) => (Pz.bindM (Pz.bindM (pureM r230) fun (x322 : (List Int)) => (Pz.bindM (pureM ()) fun (x323 : Unit) => pureM (x322, x323))) fun (x325 : ((List Int) × Unit)) => pureM (x324, x325))) fun (x326 : (PyData × (List Int) × Unit)) => pureM ((eP (eC eD (eC (eT eInt) eU))) x326)) fun (x327 : PyData) => (Pz.bindM (pureM ([] : List PyData)) fun (x328 : (List PyData)) => pureM (x327 :: x328))) fun (x337 : (List PyData)) => pureM (x336 :: x337))) fun (x342 : (List PyData)) => pureM (x341 :: x342)))) fun (x344 : (List PyData)) => optM (catO x343 x344))) fun (x357 : (List PyData)) => (Pz.bindM (Pz.bindM (Pz.bindM (pureM r98) fun (x347 : (List (List Int))) => (Pz.bindM (Pz.bindM (Pz.bindM (pureM (2 : Int)) fun (x345 : Int) => pureM (-x345)) fun (x346 : Int) => pureM (some x346)) fun (x348 : (Option Int)) => (Pz.bindM (pureM (none : Option Int)) fun (x349 : (Option Int)) => pureM (cutL x347 x348 x349)))) fun (x356 : (List (List Int))) => compM (fun (y350 : (List Int)) => (pureM true)) (fun (y350 : (List Int)) => (Pz.bindM (Pz.bindM (pureM ("found" : Str)) fun (x353 : Str) => (Pz.bindM (Pz.bindM (pureM y350) fun (x351 : (List Int)) => (Pz.bindM (pureM ()) fun (x352 : Unit) => pureM (x351, x352))) fun (x354 : ((List Int) × Unit)) => pureM (x353, x354))) fun (x355 : (Str × (List Int) × Unit)) => pureM ((eP (eC eStr (eC (eT eInt) eU))) x355))) x356) fun (x358 : (List PyData)) => optM (catO x357 x358))) fun (r321 : (List PyData)) => (Pz.bindM (Pz.bindM (pureM r321) fun (x395 : (List PyData)) => forO (fun (b360 : Unit) (y359 : PyData) => (Pz.bindM (Pz.bindM (Pz.bindM (pureM r4.1) fun (x362 : Int) => (Pz.bindM (pureM r91) fun (x363 : (List Int)) => (Pz.bindM (pureM y359) fun (x364 : PyData) => m__law_fault x362 x363 x364))) fun (x366 : PyData) => (Pz.bindM (Pz.bindM (pureM y359) fun (x365 : PyData) => optM (reprO (eD x365))) fun (x367 : Str) => pureM (x366, x367))) fun (r361 : (PyData × Str)) => (Pz.bindM (Pz.bindM (Pz.bindM (Pz.bindM (Pz.bindM (pureM r4.1) fun (x368 : Int) => (Pz.bindM (pureM r91) fun (x369 : (List Int)) => (Pz.bindM (pureM y359) fun (x370 : PyData) => m_judge_free x368 x369 x370))) fun (x371 : PyData) => optM (reprO (eD x371))) fun (x373 : Str) => (Pz.bindM (Pz.bindM (pureM r361.1) fun (x372 : PyData) => optM (reprO (eD x372))) fun (x374 : Str) => pureM (!decide (x373 = x374)))) fun (x378 : Bool) => if x378 then pureM true else (Pz.bindM (Pz.bindM (pureM y359) fun (x375 : PyData) => optM (reprO (eD x375))) fun (x376 : Str) => (Pz.bindM (pureM r361.2) fun (x377 : Str) => pureM (!decide (x376 = x377))))) fun (x379 : Bool) => if x379 then Pz.bindM (pureM false) (fun (x394 : Bool) => pureM (Out.rt x394)) else (Pz.bindM (Pz.bindM (Pz.bindM (pureM r361.1) fun (x380 : PyData) => pureM (isNon x380)) fun (x391 : Bool) => if x391 then (Pz.bindM (Pz.bindM (Pz.bindM (pureM y359) fun (x381 : PyData) => optM (asTup x381)) fun (x382 : (List PyData)) => (Pz.bindM (pureM (0 : Int)) fun (x383 : Int) => optM (atI x382 x383))) fun (x389 : PyData) => (Pz.bindM (Pz.bindM (Pz.bindM (pureM r92.2) fun (x384 : PyData) => optM (asTup x384)) fun (x385 : (List PyData)) => (Pz.bindM (pureM (0 : Int)) fun (x386 : Int) => optM (atI x385 x386))) fun (x390 : PyData) => optM ((eqD (eD x389) (eD x390)).map (!·)))) else pureM false) fun (x392 : Bool) => if x392 then Pz.bindM (pureM false) (fun (x393 : Bool) => pureM (Out.rt x393)) else (pureM (Out.nx ())))))) x395 ()) fun o => caseO o (fun (r396 : Unit) => (Pz.bindM (Pz.bindM (Pz.bindM (pureM r91) fun (x397 : (List Int)) => optM (reprO ((eT eInt) x397))) fun (x398 : Str) => (Pz.bindM (pureM r92.1) fun (x399 : Str) => pureM (!decide (x398 = x399)))) fun (x400 : Bool) => if x400 then Pz.bindM (pureM false) (fun (x401 : Bool) => pureM (Out.rt x401)) else (pureM (Out.nx ())))) (fun r => pureM (Out.rt r)))))))))))))))))) x403 ()) fun o => caseO o (fun (r404 : Unit) => (Pz.bindM (Pz.bindM (pureM (0 : Int)) fun (x420 : Int) => (Pz.bindM (smallM (Pz.bindM (pureM (0 : Int)) fun (x407 : Int) => (Pz.bindM (Pz.bindM (pureM (1 : Int)) fun (x405 : Int) => (Pz.bindM (pureM ([] : List Int)) fun (x406 : (List Int)) => pureM (x405 :: x406))) fun (x408 : (List Int)) => pureM (x407 :: x408)))) fun (x421 : (List Int)) => (Pz.bindM (Pz.bindM (Pz.bindM (pureM ("found" : Str)) fun (x417 : Str) => (Pz.bindM (Pz.bindM (Pz.bindM (pureM (1 : Int)) fun (x413 : Int) => (Pz.bindM (Pz.bindM (pureM (1 : Int)) fun (x411 : Int) => (Pz.bindM (Pz.bindM (pureM (2 : Int)) fun (x409 : Int) => (Pz.bindM (pureM ()) fun (x410 : Unit) => pureM (x409, x410))) fun (x412 : (Int × Unit)) => pureM (x411, x412))) fun (x414 : (Int × (Int × Unit))) => pureM (x413, x414))) fun (x415 : (Int × Int × Int × Unit)) => (Pz.bindM (pureM ()) fun (x416 : Unit) => pureM (x415, x416))) fun (x418 : ((Int × Int × Int × Unit) × Unit)) => pureM (x417, x418))) fun (x419 : (Str × (Int × Int × Int × Unit) × Unit)) => pureM ((eP (eC eStr (eC (eP (eC eInt (eC eInt (eC eInt eU)))) eU))) x419)) fun (x422 : PyData) => m_judge_free x420 x421 x422))) fun (x427 : PyData) => (Pz.bindM (Pz.bindM (pureM ("colors" : Str)) fun (x425 : Str) => (Pz.bindM (Pz.bindM (pureM (2 : Int)) fun (x423 : Int) => (Pz.bindM (pureM ()) fun (x424 : Unit) => pureM (x423, x424))) fun (x426 : (Int × Unit)) => pureM (x425, x426))) fun (x428 : (Str × Int × Unit)) => optM (eqD (eD x427) ((eP (eC eStr (eC eInt eU))) x428))))) pureM)
theorem ok_law {f : Addr} {fd : FuncData} (F : Fun K "law" "law" s_law f fd) (B : Bl mg) {fs : Addr} {ds : FuncData} (C : Cal K mg "_law_source" fs ds ["script"]) (Fs : FnG P w K mg base 1 fs ds ["script"] (spSource K))
    {f__law_of : Addr} {d__law_of : FuncData} (C__law_of : Cal K mg "_law_of" f__law_of d__law_of ["source", "some"]) (F__law_of : OfG P w K mg base f__law_of d__law_of)
    {f__law_pick : Addr} {d__law_pick : FuncData} (C__law_pick : Cal K mg "_law_pick" f__law_pick d__law_pick ["source", "most"]) (F__law_pick : FnG P w K mg base 1 f__law_pick d__law_pick ["source", "most"] (SpM (fun p : Int × Unit => [.src, .fz (eInt p.1)]) eInt (fun p => pickM p.1)))
    {f_free_paper : Addr} {d_free_paper : FuncData} (C_free_paper : Cal K mg "free_paper" f_free_paper d_free_paper ["shape", "coloring"]) (F_free_paper : FnG P w K mg base 4 f_free_paper d_free_paper ["shape", "coloring"] (SpM (fun p : Int × (List Int) × Unit => [.fz (eInt p.1), .fz ((eT eInt) p.2.1)]) eD (fun p : Int × (List Int) × Unit => m_free_paper p.1 p.2.1)))
    {f__law_found : Addr} {d__law_found : FuncData} (C__law_found : Cal K mg "_law_found" f__law_found d__law_found ["shape", "coloring"]) (F__law_found : FnG P w K mg base 2 f__law_found d__law_found ["shape", "coloring"] (SpM (fun p : Int × (List Int) × Unit => [.fz (eInt p.1), .fz ((eT eInt) p.2.1)]) (eL (eT eInt)) (fun p : Int × (List Int) × Unit => m__law_found p.1 p.2.1)))
    {f__law_tuples : Addr} {d__law_tuples : FuncData} (C__law_tuples : Cal K mg "_law_tuples" f__law_tuples d__law_tuples ["shape", "many"]) (F__law_tuples : FnG P w K mg base 1 f__law_tuples d__law_tuples ["shape", "many"] (SpM (fun p : Int × Int × Unit => [.fz (eInt p.1), .fz (eInt p.2.1)]) (eL (eT eInt)) (fun p : Int × Int × Unit => m__law_tuples p.1 p.2.1)))
    {f__law_fault : Addr} {d__law_fault : FuncData} (C__law_fault : Cal K mg "_law_fault" f__law_fault d__law_fault ["shape", "coloring", "value"]) (F__law_fault : FnG P w K mg base 3 f__law_fault d__law_fault ["shape", "coloring", "value"] (SpM (fun p : Int × (List Int) × PyData × Unit => [.fz (eInt p.1), .fz ((eT eInt) p.2.1), .fz (eD p.2.2.1)]) eD (fun p : Int × (List Int) × PyData × Unit => m__law_fault p.1 p.2.1 p.2.2.1)))
    {f_judge_free : Addr} {d_judge_free : FuncData} (C_judge_free : Cal K mg "judge_free" f_judge_free d_judge_free ["shape", "coloring", "value"]) (F_judge_free : FnG P w K mg base 5 f_judge_free d_judge_free ["shape", "coloring", "value"] (SpM (fun p : Int × (List Int) × PyData × Unit => [.fz (eInt p.1), .fz ((eT eInt) p.2.1), .fz (eD p.2.2.1)]) eD (fun p : Int × (List Int) × PyData × Unit => m_judge_free p.1 p.2.1 p.2.2.1)))
    (hm : Sat m_law fun r => r = true) :
    FnG P w K mg base 6 f fd ["script"] (SpLaw K) := by
  refine law_ok F sc_law rfl rfl C (Fs.mono (by decide)) m_law (fun st => let ⟨r, u, e, q⟩ := hm st; ⟨u, by rw [e, q]⟩) ⟨by first | exact Or.inl rfl | exact Or.inr rfl, by first | exact Or.inl rfl | exact Or.inr (Or.inl rfl) | exact Or.inr (Or.inr rfl)⟩ (fun _ _ _ _ _ _ => ⟨rfl, rfl, rfl, by first | exact Or.inl rfl | exact Or.inr rfl⟩) ?_
  intro cdv A above s H E R hG hr
  have sc := sc_law
  exact (s_step1 (er := eBool) (Γ1 := (fun (b : Unit) => [.un, .src, .un, .un, .un, .un, .un, .un, .un, .un, .un, .un, .un, .un, .un, .un, .un, .un])) (q_forO (er := eBool) (set := (st1 2 eInt)) (is := [2]) (fun (b : Unit) => [.un, .src, .un, .un, .un, .un, .un, .un, .un, .un, .un, .un, .un, .un, .un, .un, .un, .un]) () (fun (b3 : Unit) (y2 : Int) => (Pz.bindM (Pz.bindM (Pz.bindM (smallM (Pz.bindM (pureM (0 : Int)) fun (x15 : Int) => (Pz.bindM (Pz.bindM (pureM (0 : Int)) fun (x13 : Int) => (Pz.bindM (Pz.bindM (pureM (2 : Int)) fun (x11 : Int) => (Pz.bindM (Pz.bindM (pureM (3 : Int)) fun (x9 : Int) => (Pz.bindM (Pz.bindM (pureM (3 : Int)) fun (x7 : Int) => (Pz.bindM (Pz.bindM (pureM (4 : Int)) fun (x5 : Int) => (Pz.bindM (pureM ([] : List Int)) fun (x6 : (List Int)) => pureM (x5 :: x6))) fun (x8 : (List Int)) => pureM (x7 :: x8))) fun (x10 : (List Int)) => pureM (x9 :: x10))) fun (x12 : (List Int)) => pureM (x11 :: x12))) fun (x14 : (List Int)) => pureM (x13 :: x14))) fun (x16 : (List Int)) => pureM (x15 :: x16)))) fun (x17 : (List Int)) => ofM x17) fun (x21 : Int) => (Pz.bindM (Pz.bindM (pureM (1 : Int)) fun (x19 : Int) => (Pz.bindM (Pz.bindM (pureM (14 : Int)) fun (x18 : Int) => m__law_pick x18) fun (x20 : Int) => pureM (x19 + x20))) fun (x22 : Int) => pureM (x21, x22))) fun (r4 : (Int × Int)) => (Pz.bindM (Pz.bindM (Pz.bindM (Pz.bindM (pureM r4.2) fun (x24 : Int) => rangeM 0 x24) fun (x27 : (List Int)) => compM (fun (y25 : Int) => (pureM true)) (fun (y25 : Int) => (Pz.bindM (pureM (3 : Int)) fun (x26 : Int) => m__law_pick x26)) x27) fun (x28 : (List Int)) => optM (some x28)) fun (r23 : (List Int)) => (Pz.bindM (Pz.bindM (Pz.bindM (Pz.bindM (pureM (2 : Int)) fun (x29 : Int) => m__law_pick x29) fun (x30 : Int) => (Pz.bindM (pureM (0 : Int)) fun (x31 : Int) => pureM (decide (x30 = x31)))) fun (x32 : Bool) => if x32 then (Pz.bindM (Pz.bindM (Pz.bindM (Pz.bindM (smallM (Pz.bindM (smallM (Pz.bindM (pureM (0 : Int)) fun (x80 : Int) => (Pz.bindM (Pz.bindM (pureM (1 : Int)) fun (x78 : Int) => (Pz.bindM (Pz.bindM (pureM (1 : Int)) fun (x76 : Int) => (Pz.bindM (Pz.bindM (pureM (0 : Int)) fun (x74 : Int) => (Pz.bindM (pureM ([] : List Int)) fun (x75 : (List Int)) => pureM (x74 :: x75))) fun (x77 : (List Int)) => pureM (x76 :: x77))) fun (x79 : (List Int)) => pureM (x78 :: x79))) fun (x81 : (List Int)) => pureM (x80 :: x81)))) fun (x82 : (List Int)) => (Pz.bindM (Pz.bindM (smallM (Pz.bindM (pureM (0 : Int)) fun (x70 : Int) => (Pz.bindM (Pz.bindM (pureM (0 : Int)) fun (x68 : Int) => (Pz.bindM (Pz.bindM (pureM (1 : Int)) fun (x66 : Int) => (Pz.bindM (Pz.bindM (pureM (1 : Int)) fun (x64 : Int) => (Pz.bindM (pureM ([] : List Int)) fun (x65 : (List Int)) => pureM (x64 :: x65))) fun (x67 : (List Int)) => pureM (x66 :: x67))) fun (x69 : (List Int)) => pureM (x68 :: x69))) fun (x71 : (List Int)) => pureM (x70 :: x71)))) fun (x72 : (List Int)) => (Pz.bindM (Pz.bindM (smallM (Pz.bindM (pureM (0 : Int)) fun (x60 : Int) => (Pz.bindM (Pz.bindM (pureM (1 : Int)) fun (x58 : Int) => (Pz.bindM (Pz.bindM (pureM (2 : Int)) fun (x56 : Int) => (Pz.bindM (pureM ([] : List Int)) fun (x57 : (List Int)) => pureM (x56 :: x57))) fun (x59 : (List Int)) => pureM (x58 :: x59))) fun (x61 : (List Int)) => pureM (x60 :: x61)))) fun (x62 : (List Int)) => (Pz.bindM (pureM ([] : List (List Int))) fun (x63 : (List (List Int))) => pureM (x62 :: x63))) fun (x73 : (List (List Int))) => pureM (x72 :: x73))) fun (x83 : (List (List Int))) => pureM (x82 :: x83)))) fun (x84 : (List (List Int))) => ofM x84) fun (x85 : (List Int)) => (Pz.bindM (pureM (5 : Int)) fun (x86 : Int) => optM (repTO x85 x86))) fun (x88 : (List Int)) => (Pz.bindM (pureM (none : Option Int)) fun (x89 : (Option Int)) => (Pz.bindM (Pz.bindM (pureM r4.2) fun (x87 : Int) => pureM (some x87)) fun (x90 : (Option Int)) => pureM (cutL x88 x89 x90)))) fun (r33 : (List Int)) => (pureM r33)) else (pureM r23)) fun (r91 : ((List Int))) => (Pz.bindM (Pz.bindM (Pz.bindM (pureM r91) fun (x93 : (List Int)) => optM (reprO ((eT eInt) x93))) fun (x96 : Str) => (Pz.bindM (Pz.bindM (pureM r4.1) fun (x94 : Int) => (Pz.bindM (pureM r91) fun (x95 : (List Int)) => m_free_paper x94 x95)) fun (x97 : PyData) => pureM (x96, x97))) fun (r92 : (Str × PyData)) => (Pz.bindM (Pz.bindM (pureM r4.1) fun (x99 : Int) => (Pz.bindM (pureM r91) fun (x100 : (List Int)) => m__law_found x99 x100)) fun (r98 : (List (List Int))) => (Pz.bindM (Pz.bindM (Pz.bindM (pureM r92.2) fun (x101 : PyData) => optM (reprO (eD x101))) fun (x124 : Str) => (Pz.bindM (Pz.bindM (Pz.bindM (Pz.bindM (pureM r98) fun (x102 : (List (List Int))) => (Pz.bindM (smallM (pureM ([] : List (List Int)))) fun (x103 : (List (List Int))) => pureM (!decide (x102 = x103)))) fun (x122 : Bool) => if x122 then (Pz.bindM (Pz.bindM (pureM ("found" : Str)) fun (x116 : Str) => (Pz.bindM (Pz.bindM (Pz.bindM (pureM r98) fun (x112 : (List (List Int))) => (Pz.bindM (pureM (0 : Int)) fun (x113 : Int) => optM (atI x112 x113))) fun (x114 : (List Int)) => (Pz.bindM (pureM ()) fun (x115 : Unit) => pureM (x114, x115))) fun (x117 : ((List Int) × Unit)) => pureM (x116, x117))) fun (x118 : (Str × (List Int) × Unit)) => pureM ((eP (eC eStr (eC (eT eInt) eU))) x118)) else (Pz.bindM (Pz.bindM (pureM ("free" : Str)) fun (x119 : Str) => (Pz.bindM (pureM ()) fun (x120 : Unit) => pureM (x119, x120))) fun (x121 : (Str × Unit)) => pureM ((eP (eC eStr eU)) x121))) fun (x123 : PyData) => optM (reprO (eD x123))) fun (x125 : Str) => pureM (!decide (x124 = x125)))) fun (x126 : Bool) => if x126 then Pz.bindM (pureM false) (fun (x402 : Bool) => pureM (Out.rt x402)) else (Pz.bindM (Pz.bindM (Pz.bindM (pureM r4.1) fun (x128 : Int) => (Pz.bindM (pureM r4.2) fun (x129 : Int) => m__law_tuples x128 x129)) fun (x162 : (List (List Int))) => (Pz.bindM (smallM (Pz.bindM (smallM (Pz.bindM (pureM (1 : Int)) fun (x158 : Int) => (Pz.bindM (Pz.bindM (pureM (2 : Int)) fun (x156 : Int) => (Pz.bindM (Pz.bindM (pureM (4 : Int)) fun (x154 : Int) => (Pz.bindM (pureM ([] : List Int)) fun (x155 : (List Int)) => pureM (x154 :: x155))) fun (x157 : (List Int)) => pureM (x156 :: x157))) fun (x159 : (List Int)) => pureM (x158 :: x159)))) fun (x160 : (List Int)) => (Pz.bindM (Pz.bindM (smallM (Pz.bindM (pureM (1 : Int)) fun (x150 : Int) => (Pz.bindM (Pz.bindM (pureM (1 : Int)) fun (x148 : Int) => (Pz.bindM (Pz.bindM (pureM (2 : Int)) fun (x146 : Int) => (Pz.bindM (pureM ([] : List Int)) fun (x147 : (List Int)) => pureM (x146 :: x147))) fun (x149 : (List Int)) => pureM (x148 :: x149))) fun (x151 : (List Int)) => pureM (x150 :: x151)))) fun (x152 : (List Int)) => (Pz.bindM (Pz.bindM (smallM (Pz.bindM (pureM r4.2) fun (x142 : Int) => (Pz.bindM (Pz.bindM (pureM r4.2) fun (x140 : Int) => (Pz.bindM (Pz.bindM (Pz.bindM (pureM (2 : Int)) fun (x136 : Int) => (Pz.bindM (pureM r4.2) fun (x137 : Int) => optM (mulO x136 x137))) fun (x138 : Int) => (Pz.bindM (pureM ([] : List Int)) fun (x139 : (List Int)) => pureM (x138 :: x139))) fun (x141 : (List Int)) => pureM (x140 :: x141))) fun (x143 : (List Int)) => pureM (x142 :: x143)))) fun (x144 : (List Int)) => (Pz.bindM (Pz.bindM (smallM (Pz.bindM (pureM (1 : Int)) fun (x132 : Int) => (Pz.bindM (pureM ([] : List Int)) fun (x133 : (List Int)) => pureM (x132 :: x133)))) fun (x134 : (List Int)) => (Pz.bindM (Pz.bindM (smallM (pureM ([] : List Int))) fun (x130 : (List Int)) => (Pz.bindM (pureM ([] : List (List Int))) fun (x131 : (List (List Int))) => pureM (x130 :: x131))) fun (x135 : (List (List Int))) => pureM (x134 :: x135))) fun (x145 : (List (List Int))) => pureM (x144 :: x145))) fun (x153 : (List (List Int))) => pureM (x152 :: x153))) fun (x161 : (List (List Int))) => pureM (x160 :: x161)))) fun (x163 : (List (List Int))) => optM (catO x162 x163))) fun (r127 : (List (List Int))) => (Pz.bindM (smallM (Pz.bindM (Pz.bindM (pureM ()) fun (x225 : Unit) => pureM (eNon x225)) fun (x226 : PyData) => (Pz.bindM (Pz.bindM (Pz.bindM (pureM true) fun (x222 : Bool) => pureM (eBool x222)) fun (x223 : PyData) => (Pz.bindM (Pz.bindM (Pz.bindM (pureM (0 : Int)) fun (x219 : Int) => pureM (eInt x219)) fun (x220 : PyData) => (Pz.bindM (Pz.bindM (Pz.bindM (pureM ("0" : Str)) fun (x216 : Str) => pureM (eStr x216)) fun (x217 : PyData) => (Pz.bindM (Pz.bindM (Pz.bindM (Pz.bindM (pureM true) fun (x211 : Bool) => (Pz.bindM (Pz.bindM (pureM (1 : Int)) fun (x209 : Int) => (Pz.bindM (Pz.bindM (pureM (2 : Int)) fun (x207 : Int) => (Pz.bindM (pureM ()) fun (x208 : Unit) => pureM (x207, x208))) fun (x210 : (Int × Unit)) => pureM (x209, x210))) fun (x212 : (Int × (Int × Unit))) => pureM (x211, x212))) fun (x213 : (Bool × Int × Int × Unit)) => pureM ((eP (eC eBool (eC eInt (eC eInt eU)))) x213)) fun (x214 : PyData) => (Pz.bindM (Pz.bindM (Pz.bindM (smallM (Pz.bindM (pureM (1 : Int)) fun (x202 : Int) => (Pz.bindM (Pz.bindM (pureM (1 : Int)) fun (x200 : Int) => (Pz.bindM (Pz.bindM (pureM (2 : Int)) fun (x198 : Int) => (Pz.bindM (pureM ([] : List Int)) fun (x199 : (List Int)) => pureM (x198 :: x199))) fun (x201 : (List Int)) => pureM (x200 :: x201))) fun (x203 : (List Int)) => pureM (x202 :: x203)))) fun (x204 : (List Int)) => pureM ((eL eInt) x204)) fun (x205 : PyData) => (Pz.bindM (Pz.bindM (Pz.bindM (Pz.bindM (pureM (0 : Int)) fun (x193 : Int) => (Pz.bindM (Pz.bindM (pureM (1 : Int)) fun (x191 : Int) => (Pz.bindM (Pz.bindM (pureM (1 : Int)) fun (x189 : Int) => (Pz.bindM (pureM ()) fun (x190 : Unit) => pureM (x189, x190))) fun (x192 : (Int × Unit)) => pureM (x191, x192))) fun (x194 : (Int × (Int × Unit))) => pureM (x193, x194))) fun (x195 : (Int × Int × Int × Unit)) => pureM ((eP (eC eInt (eC eInt (eC eInt eU)))) x195)) fun (x196 : PyData) => (Pz.bindM (Pz.bindM (Pz.bindM (Pz.bindM (Pz.bindM (pureM (1 : Int)) fun (x181 : Int) => pureM (-x181)) fun (x184 : Int) => (Pz.bindM (Pz.bindM (pureM (1 : Int)) fun (x182 : Int) => (Pz.bindM (pureM ()) fun (x183 : Unit) => pureM (x182, x183))) fun (x185 : (Int × Unit)) => pureM (x184, x185))) fun (x186 : (Int × Int × Unit)) => pureM ((eP (eC eInt (eC eInt eU))) x186)) fun (x187 : PyData) => (Pz.bindM (Pz.bindM (Pz.bindM (Pz.bindM (Pz.bindM (pureM (10 : Int)) fun (x170 : Int) => (Pz.bindM (pureM (20 : Int)) fun (x171 : Int) => optM (powO x170 x171))) fun (x176 : Int) => (Pz.bindM (Pz.bindM (pureM (1 : Int)) fun (x174 : Int) => (Pz.bindM (Pz.bindM (pureM (1 : Int)) fun (x172 : Int) => (Pz.bindM (pureM ()) fun (x173 : Unit) => pureM (x172, x173))) fun (x175 : (Int × Unit)) => pureM (x174, x175))) fun (x177 : (Int × (Int × Unit))) => pureM (x176, x177))) fun (x178 : (Int × Int × Int × Unit)) => pureM ((eP (eC eInt (eC eInt (eC eInt eU)))) x178)) fun (x179 : PyData) => (Pz.bindM (Pz.bindM (Pz.bindM (Pz.bindM (pureM ("1" : Str)) fun (x165 : Str) => (Pz.bindM (pureM ()) fun (x166 : Unit) => pureM (x165, x166))) fun (x167 : (Str × Unit)) => pureM ((eP (eC eStr eU)) x167)) fun (x168 : PyData) => (Pz.bindM (pureM ([] : List PyData)) fun (x169 : (List PyData)) => pureM (x168 :: x169))) fun (x180 : (List PyData)) => pureM (x179 :: x180))) fun (x188 : (List PyData)) => pureM (x187 :: x188))) fun (x197 : (List PyData)) => pureM (x196 :: x197))) fun (x206 : (List PyData)) => pureM (x205 :: x206))) fun (x215 : (List PyData)) => pureM (x214 :: x215))) fun (x218 : (List PyData)) => pureM (x217 :: x218))) fun (x221 : (List PyData)) => pureM (x220 :: x221))) fun (x224 : (List PyData)) => pureM (x223 :: x224))) fun (x227 : (List PyData)) => pureM (x226 :: x227)))) fun (r164 : (List PyData)) => (Pz.bindM (Pz.bindM (pureM r164) fun (x229 : (List PyData)) => ofM x229) fun (r228 : PyData) => (Pz.bindM (Pz.bindM (pureM r127) fun (x231 : (List (List Int))) => ofM x231) fun (r230 : (List Int)) => (Pz.bindM (smallM (Pz.bindM (pureM r92.2) fun (x281 : PyData) => (Pz.bindM (Pz.bindM (Pz.bindM (Pz.bindM (Pz.bindM (pureM r92.2) fun (x276 : PyData) => optM (asTup x276)) fun (x277 : (List PyData)) => optM (some x277)) fun (x278 : (List PyData)) => pureM ((eL eD) x278)) fun (x279 : PyData) => (Pz.bindM (Pz.bindM (Pz.bindM (Pz.bindM (Pz.bindM (pureM r92.2) fun (x269 : PyData) => optM (asTup x269)) fun (x271 : (List PyData)) => (Pz.bindM (Pz.bindM (Pz.bindM (pureM (0 : Int)) fun (x267 : Int) => (Pz.bindM (pureM ()) fun (x268 : Unit) => pureM (x267, x268))) fun (x270 : (Int × Unit)) => pureM ((fun p : (Int × Unit) => [eInt p.1]) x270)) fun (x272 : (List PyData)) => optM (catO x271 x272))) fun (x273 : (List PyData)) => pureM ((eT eD) x273)) fun (x274 : PyData) => (Pz.bindM (Pz.bindM (Pz.bindM (Pz.bindM (pureM ("free" : Str)) fun (x260 : Str) => (Pz.bindM (pureM ()) fun (x261 : Unit) => pureM (x260, x261))) fun (x262 : (Str × Unit)) => pureM ((eP (eC eStr eU)) x262)) fun (x263 : PyData) => (Pz.bindM (Pz.bindM (Pz.bindM (Pz.bindM (pureM ("found" : Str)) fun (x255 : Str) => (Pz.bindM (Pz.bindM (pureM r230) fun (x253 : (List Int)) => (Pz.bindM (pureM ()) fun (x254 : Unit) => pureM (x253, x254))) fun (x256 : ((List Int) × Unit)) => pureM (x255, x256))) fun (x257 : (Str × (List Int) × Unit)) => pureM ((eP (eC eStr (eC (eT eInt) eU))) x257)) fun (x258 : PyData) => (Pz.bindM (Pz.bindM (Pz.bindM (Pz.bindM (pureM ("found" : Str)) fun (x248 : Str) => (Pz.bindM (Pz.bindM (pureM r228) fun (x246 : PyData) => (Pz.bindM (pureM ()) fun (x247 : Unit) => pureM (x246, x247))) fun (x249 : (PyData × Unit)) => pureM (x248, x249))) fun (x250 : (Str × PyData × Unit)) => pureM ((eP (eC eStr (eC eD eU))) x250)) fun (x251 : PyData) => (Pz.bindM (Pz.bindM (Pz.bindM (Pz.bindM (pureM r228) fun (x241 : PyData) => (Pz.bindM (pureM ()) fun (x242 : Unit) => pureM (x241, x242))) fun (x243 : (PyData × Unit)) => pureM ((eP (eC eD eU)) x243)) fun (x244 : PyData) => (Pz.bindM (Pz.bindM (Pz.bindM (Pz.bindM (pureM ("found" : Str)) fun (x236 : Str) => (Pz.bindM (pureM ()) fun (x237 : Unit) => pureM (x236, x237))) fun (x238 : (Str × Unit)) => pureM ((eP (eC eStr eU)) x238)) fun (x239 : PyData) => (Pz.bindM (Pz.bindM (Pz.bindM (pureM ()) fun (x233 : Unit) => pureM (eNon x233)) fun (x234 : PyData) => (Pz.bindM (pureM ([] : List PyData)) fun (x235 : (List PyData)) => pureM (x234 :: x235))) fun (x240 : (List PyData)) => pureM (x239 :: x240))) fun (x245 : (List PyData)) => pureM (x244 :: x245))) fun (x252 : (List PyData)) => pureM (x251 :: x252))) fun (x259 : (List PyData)) => pureM (x258 :: x259))) fun (x264 : (List PyData)) => pureM (x263 :: x264))) fun (x275 : (List PyData)) => pureM (x274 :: x275))) fun (x280 : (List PyData)) => pureM (x279 :: x280))) fun (x282 : (List PyData)) => pureM (x281 :: x282)))) fun (r232 : (List PyData)) => (Pz.bindM (Pz.bindM (Pz.bindM (pureM ()) fun (x284 : (Unit)) => pureM ((eP eU) x284)) fun (x285 : PyData) => appM r232 x285) fun (r283 : (List PyData)) => (Pz.bindM (Pz.bindM (Pz.bindM (pureM r283) fun (x298 : (List PyData)) => (Pz.bindM (Pz.bindM (Pz.bindM (pureM r127) fun (x288 : (List (List Int))) => (Pz.bindM (pureM (none : Option Int)) fun (x289 : (Option Int)) => (Pz.bindM (Pz.bindM (pureM (6 : Int)) fun (x287 : Int) => pureM (some x287)) fun (x290 : (Option Int)) => pureM (cutL x288 x289 x290)))) fun (x297 : (List (List Int))) => compM (fun (y291 : (List Int)) => (pureM true)) (fun (y291 : (List Int)) => (Pz.bindM (Pz.bindM (pureM ("found" : Str)) fun (x294 : Str) => (Pz.bindM (Pz.bindM (pureM y291) fun (x292 : (List Int)) => (Pz.bindM (pureM ()) fun (x293 : Unit) => pureM (x292, x293))) fun (x295 : ((List Int) × Unit)) => pureM (x294, x295))) fun (x296 : (Str × (List Int) × Unit)) => pureM ((eP (eC eStr (eC (eT eInt) eU))) x296))) x297) fun (x299 : (List PyData)) => optM (catO x298 x299))) fun (x319 : (List PyData)) => (Pz.bindM (smallM (Pz.bindM (Pz.bindM (Pz.bindM (pureM ("found" : Str)) fun (x314 : Str) => (Pz.bindM (Pz.bindM (Pz.bindM (pureM r230) fun (x311 : (List Int)) => optM (some x311)) fun (x312 : (List Int)) => (Pz.bindM (pureM ()) fun (x313 : Unit) => pureM (x312, x313))) fun (x315 : ((List Int) × Unit)) => pureM (x314, x315))) fun (x316 : (Str × (List Int) × Unit)) => pureM ((eP (eC eStr (eC (eL eInt) eU))) x316)) fun (x317 : PyData) => (Pz.bindM (Pz.bindM (Pz.bindM (Pz.bindM (pureM ("found" : Str)) fun (x306 : Str) => (Pz.bindM (Pz.bindM (Pz.bindM (pureM r230) fun (x303 : (List Int)) => pureM x303.reverse) fun (x304 : (List Int)) => (Pz.bindM (pureM ()) fun (x305 : Unit) => pureM (x304, x305))) fun (x307 : ((List Int) × Unit)) => pureM (x306, x307))) fun (x308 : (Str × (List Int) × Unit)) => pureM ((eP (eC eStr (eC (eT eInt) eU))) x308)) fun (x309 : PyData) => (Pz.bindM (Pz.bindM (Pz.bindM (pureM ("free" : Str)) fun (x300 : Str) => pureM (eStr x300)) fun (x301 : PyData) => (Pz.bindM (pureM ([] : List PyData)) fun (x302 : (List PyData)) => pureM (x301 :: x302))) fun (x310 : (List PyData)) => pureM (x309 :: x310))) fun (x318 : (List PyData)) => pureM (x317 :: x318)))) fun (x320 : (List PyData)) => optM (catO x319 x320))) fun (r286 : (List PyData)) => (Pz.bindM (Pz.bindM (Pz.bindM (pureM r286) fun (x343 : (List PyData)) => (Pz.bindM (smallM (Pz.bindM (Pz.bindM (Pz.bindM (pureM ("Free" : Str)) fun (x338 : Str) => (Pz.bindM (pureM ()) fun (x339 : Unit) => pureM (x338, x339))) fun (x340 : (Str × Unit)) => pureM ((eP (eC eStr eU)) x340)) fun (x341 : PyData) => (Pz.bindM (Pz.bindM (Pz.bindM (Pz.bindM (pureM ("found" : Str)) fun (x333 : Str) => (Pz.bindM (Pz.bindM (pureM r230) fun (x331 : (List Int)) => (Pz.bindM (Pz.bindM (pureM r230) fun (x329 : (List Int)) => (Pz.bindM (pureM ()) fun (x330 : Unit) => pureM (x329, x330))) fun (x332 : ((List Int) × Unit)) => pureM (x331, x332))) fun (x334 : ((List Int) × ((List Int) × Unit))) => pureM (x333, x334))) fun (x335 : (Str × (List Int) × (List Int) × Unit)) => pureM ((eP (eC eStr (eC (eT eInt) (eC (eT eInt) eU)))) x335)) fun (x336 : PyData) => (Pz.bindM (Pz.bindM (Pz.bindM (Pz.bindM (pureM r228) fun (x324 : PyData) => (Pz.bindM (Pz.bindM (pureM r230) fun (x322 : (List Int)) => (Pz.bindM (pureM ()) fun (x323 : Unit) => pureM (x322, x323))) fun (x325 : ((List Int) × Unit)) => pureM (x324, x325))) fun (x326 : (PyData × (List Int) × Unit)) => pureM ((eP (eC eD (eC (eT eInt) eU))) x326)) fun (x327 : PyData) => (Pz.bindM (pureM ([] : List PyData)) fun (x328 : (List PyData)) => pureM (x327 :: x328))) fun (x337 : (List PyData)) => pureM (x336 :: x337))) fun (x342 : (List PyData)) => pureM (x341 :: x342)))) fun (x344 : (List PyData)) => optM (catO x343 x344))) fun (x357 : (List PyData)) => (Pz.bindM (Pz.bindM (Pz.bindM (pureM r98) fun (x347 : (List (List Int))) => (Pz.bindM (Pz.bindM (Pz.bindM (pureM (2 : Int)) fun (x345 : Int) => pureM (-x345)) fun (x346 : Int) => pureM (some x346)) fun (x348 : (Option Int)) => (Pz.bindM (pureM (none : Option Int)) fun (x349 : (Option Int)) => pureM (cutL x347 x348 x349)))) fun (x356 : (List (List Int))) => compM (fun (y350 : (List Int)) => (pureM true)) (fun (y350 : (List Int)) => (Pz.bindM (Pz.bindM (pureM ("found" : Str)) fun (x353 : Str) => (Pz.bindM (Pz.bindM (pureM y350) fun (x351 : (List Int)) => (Pz.bindM (pureM ()) fun (x352 : Unit) => pureM (x351, x352))) fun (x354 : ((List Int) × Unit)) => pureM (x353, x354))) fun (x355 : (Str × (List Int) × Unit)) => pureM ((eP (eC eStr (eC (eT eInt) eU))) x355))) x356) fun (x358 : (List PyData)) => optM (catO x357 x358))) fun (r321 : (List PyData)) => (Pz.bindM (Pz.bindM (pureM r321) fun (x395 : (List PyData)) => forO (fun (b360 : Unit) (y359 : PyData) => (Pz.bindM (Pz.bindM (Pz.bindM (pureM r4.1) fun (x362 : Int) => (Pz.bindM (pureM r91) fun (x363 : (List Int)) => (Pz.bindM (pureM y359) fun (x364 : PyData) => m__law_fault x362 x363 x364))) fun (x366 : PyData) => (Pz.bindM (Pz.bindM (pureM y359) fun (x365 : PyData) => optM (reprO (eD x365))) fun (x367 : Str) => pureM (x366, x367))) fun (r361 : (PyData × Str)) => (Pz.bindM (Pz.bindM (Pz.bindM (Pz.bindM (Pz.bindM (pureM r4.1) fun (x368 : Int) => (Pz.bindM (pureM r91) fun (x369 : (List Int)) => (Pz.bindM (pureM y359) fun (x370 : PyData) => m_judge_free x368 x369 x370))) fun (x371 : PyData) => optM (reprO (eD x371))) fun (x373 : Str) => (Pz.bindM (Pz.bindM (pureM r361.1) fun (x372 : PyData) => optM (reprO (eD x372))) fun (x374 : Str) => pureM (!decide (x373 = x374)))) fun (x378 : Bool) => if x378 then pureM true else (Pz.bindM (Pz.bindM (pureM y359) fun (x375 : PyData) => optM (reprO (eD x375))) fun (x376 : Str) => (Pz.bindM (pureM r361.2) fun (x377 : Str) => pureM (!decide (x376 = x377))))) fun (x379 : Bool) => if x379 then Pz.bindM (pureM false) (fun (x394 : Bool) => pureM (Out.rt x394)) else (Pz.bindM (Pz.bindM (Pz.bindM (pureM r361.1) fun (x380 : PyData) => pureM (isNon x380)) fun (x391 : Bool) => if x391 then (Pz.bindM (Pz.bindM (Pz.bindM (pureM y359) fun (x381 : PyData) => optM (asTup x381)) fun (x382 : (List PyData)) => (Pz.bindM (pureM (0 : Int)) fun (x383 : Int) => optM (atI x382 x383))) fun (x389 : PyData) => (Pz.bindM (Pz.bindM (Pz.bindM (pureM r92.2) fun (x384 : PyData) => optM (asTup x384)) fun (x385 : (List PyData)) => (Pz.bindM (pureM (0 : Int)) fun (x386 : Int) => optM (atI x385 x386))) fun (x390 : PyData) => optM ((eqD (eD x389) (eD x390)).map (!·)))) else pureM false) fun (x392 : Bool) => if x392 then Pz.bindM (pureM false) (fun (x393 : Bool) => pureM (Out.rt x393)) else (pureM (Out.nx ())))))) x395 ()) fun o => caseO o (fun (r396 : Unit) => (Pz.bindM (Pz.bindM (Pz.bindM (pureM r91) fun (x397 : (List Int)) => optM (reprO ((eT eInt) x397))) fun (x398 : Str) => (Pz.bindM (pureM r92.1) fun (x399 : Str) => pureM (!decide (x398 = x399)))) fun (x400 : Bool) => if x400 then Pz.bindM (pureM false) (fun (x401 : Bool) => pureM (Out.rt x401)) else (pureM (Out.nx ())))) (fun r => pureM (Out.rt r)))))))))))))))))) PassesOwn.never rfl (i_range1 B.b_range e_int) (g1 2 eInt sc.nd) noow1 (.un (.eq (.un (.un (.un (.un (.un (.un (.un (.un (.un (.un (.un (.un (.un (.un (.un (.un .nil)))))))))))))))))) (fun (b3 : Unit) (y2 : Int) => (s_step (Γ1 := fun (r4 : (Int × Int)) => [.un, .src, .fz (eInt y2), .fz (eInt r4.1), .fz (eInt r4.2), .un, .un, .un, .un, .un, .un, .un, .un, .un, .un, .un, .un, .un]) (q_par2 3 4 (e_cs1 1 ((F__law_of.L eInt).mono (by decide)) hG hr C__law_of.mg C__law_of.kp C__law_of.bd (f_e (f_list (l_cons e_int (l_cons e_int (l_cons e_int (l_cons e_int (l_cons e_int (l_cons e_int l_nil))))))))) (e_add e_int (e_cs1 1 (F__law_pick.mono (by decide)) hG hr C__law_pick.mg C__law_pick.kp C__law_pick.bd e_int)) rfl sc.nd) (fun (r4 : (Int × Int)) => (s_step (Γ1 := fun (r23 : (List Int)) => [.un, .src, .fz (eInt y2), .fz (eInt r4.1), .fz (eInt r4.2), .fz ((eT eInt) r23), .un, .un, .un, .un, .un, .un, .un, .un, .un, .un, .un, .un]) (q_set 5 (e_t1 (ea := (eL eInt)) (ec := (eT eInt)) (f := fun x => some x) call_tuple_of v_tupL B.b_tuple bt_tuple (f_e (f_lc (set := (st1 16 eInt)) (is := [16]) [("x", 16)] (fun (y25 : Int) => (pureM true)) (fun (y25 : Int) => (Pz.bindM (pureM (3 : Int)) fun (x26 : Int) => m__law_pick x26)) rfl sc.nd (i_range1 B.b_range (e_var 4 eInt r4.2)) (blkOk_by (N := N_law) (sc := (defScope s_law)) (by decide +kernel)) (fun _ _ _ _ _ => (g1 16 eInt sc.nd)) (fun _ _ _ _ _ (y25 : Int) => c_nil) (fun _ _ _ _ _ (y25 : Int) => (e_cs1 1 (F__law_pick.mono (by decide)) hG hr C__law_pick.mg C__law_pick.kp C__law_pick.bd e_int)) noow1 sm1 (fun _ h => h) (noOw rfl)))) sc.nd) (fun (r23 : (List Int)) => (s_step (Γ1 := (fun (b : ((List Int))) => [.un, .src, .fz (eInt y2), .fz (eInt r4.1), .fz (eInt r4.2), .fz ((eT eInt) b), .un, .un, .un, .un, .un, .un, .un, .un, .un, .un, .un, .un])) (q_if (t_eqI (e_cs1 1 (F__law_pick.mono (by decide)) hG hr C__law_pick.mg C__law_pick.kp C__law_pick.bd e_int) e_int) (s_step (Γ1 := fun (r33 : (List Int)) => [.un, .src, .fz (eInt y2), .fz (eInt r4.1), .fz (eInt r4.2), .fz ((eT eInt) r33), .un, .un, .un, .un, .un, .un, .un, .un, .un, .un, .un, .un]) (q_set 5 (e_slT (e_repT (e_cs1 1 ((F__law_of.L (eT eInt)).mono (by decide)) hG hr C__law_of.mg C__law_of.kp C__law_of.bd (f_e (f_list (l_cons (e_tupl (l_cons e_int (l_cons e_int (l_cons e_int (l_cons e_int l_nil))))) (l_cons (e_tupl (l_cons e_int (l_cons e_int (l_cons e_int (l_cons e_int l_nil))))) (l_cons (e_tupl (l_cons e_int (l_cons e_int (l_cons e_int l_nil)))) l_nil)))))) e_int) p_none (p_some (e_var 4 eInt r4.2))) sc.nd) (fun (r33 : (List Int)) => (s_nilN (Γb := (fun (b : ((List Int))) => [.un, .src, .fz (eInt y2), .fz (eInt r4.1), .fz (eInt r4.2), .fz ((eT eInt) b), .un, .un, .un, .un, .un, .un, .un, .un, .un, .un, .un, .un])) r33 (.un (.eq (.eq (.eq (.eq (.eq (.un (.un (.un (.un (.un (.un (.un (.un (.un (.un (.un (.un .nil))))))))))))))))))))) (s_nilN (Γb := (fun (b : ((List Int))) => [.un, .src, .fz (eInt y2), .fz (eInt r4.1), .fz (eInt r4.2), .fz ((eT eInt) b), .un, .un, .un, .un, .un, .un, .un, .un, .un, .un, .un, .un])) r23 (.un (.eq (.eq (.eq (.eq (.eq (.un (.un (.un (.un (.un (.un (.un (.un (.un (.un (.un (.un .nil)))))))))))))))))))) (fun r91 => (s_step (Γ1 := fun (r92 : (Str × PyData)) => [.un, .src, .fz (eInt y2), .fz (eInt r4.1), .fz (eInt r4.2), .fz ((eT eInt) r91), .fz (eStr r92.1), .fz (eD r92.2), .un, .un, .un, .un, .un, .un, .un, .un, .un, .un]) (q_par2 6 7 (e_repr (ea := (eT eInt)) hr hG B.b_repr bt_repr (e_var 5 (eT eInt) r91)) (e_c2 (F_free_paper.mono (by decide)) hG hr C_free_paper.mg C_free_paper.kp C_free_paper.bd (e_var 3 eInt r4.1) (e_var 5 (eT eInt) r91)) rfl sc.nd) (fun (r92 : (Str × PyData)) => (s_step (Γ1 := fun (r98 : (List (List Int))) => [.un, .src, .fz (eInt y2), .fz (eInt r4.1), .fz (eInt r4.2), .fz ((eT eInt) r91), .fz (eStr r92.1), .fz (eD r92.2), .fz ((eL (eT eInt)) r98), .un, .un, .un, .un, .un, .un, .un, .un, .un]) (q_set 8 (e_c2 (F__law_found.mono (by decide)) hG hr C__law_found.mg C__law_found.kp C__law_found.bd (e_var 3 eInt r4.1) (e_var 5 (eT eInt) r91)) sc.nd) (fun (r98 : (List (List Int))) => (s_ifret2 (Γb := (fun (b : Unit) => [.un, .src, .un, .un, .un, .un, .un, .un, .un, .un, .un, .un, .un, .un, .un, .un, .un, .un])) (t_neT (e_repr (ea := eD) hr hG B.b_repr bt_repr (e_var 7 eD r92.2)) (e_repr (ea := eD) hr hG B.b_repr bt_repr (e_if (t_neP (n := 2) hr (Dc.lst (Dc.tup Dc.int)) (e_var 8 (eL (eT eInt)) r98) (f_e (f_list l_nil))) (e_enc (eb := eD) (fun x => (eP (eC eStr (eC (eT eInt) eU))) x) (e_tup (eC eStr (eC (eT eInt) eU)) (a_cons e_str (a_cons (e_ixL (e_var 8 (eL (eT eInt)) r98) e_int) a_nil)) (hl := fun _ => (by decide : 2 ≤ sizeLine))) (fun _ => rfl)) (e_enc (eb := eD) (fun x => (eP (eC eStr eU)) x) (e_tup (eC eStr eU) (a_cons e_str a_nil) (hl := fun _ => (by decide : 1 ≤ sizeLine))) (fun _ => rfl))))) (s_ret0 e_bool) (s_step (Γ1 := fun (r127 : (List (List Int))) => [.un, .src, .fz (eInt y2), .fz (eInt r4.1), .fz (eInt r4.2), .fz ((eT eInt) r91), .fz (eStr r92.1), .fz (eD r92.2), .fz ((eL (eT eInt)) r98), .fz ((eL (eT eInt)) r127), .un, .un, .un, .un, .un, .un, .un, .un]) (q_set 9 (f_e (f_catL (e_c2 (F__law_tuples.mono (by decide)) hG hr C__law_tuples.mg C__law_tuples.kp C__law_tuples.bd (e_var 3 eInt r4.1) (e_var 4 eInt r4.2)) (f_e (f_list (l_cons (e_tupl (l_cons e_int (l_cons e_int (l_cons e_int l_nil)))) (l_cons (e_tupl (l_cons e_int (l_cons e_int (l_cons e_int l_nil)))) (l_cons (e_tupl (l_cons (e_var 4 eInt r4.2) (l_cons (e_var 4 eInt r4.2) (l_cons (e_mul e_int (e_var 4 eInt r4.2)) l_nil)))) (l_cons (e_tupl (l_cons e_int l_nil)) (l_cons (e_tupl l_nil) l_nil))))))))) sc.nd) (fun (r127 : (List (List Int))) => (s_step (Γ1 := fun (r164 : (List PyData)) => [.un, .src, .fz (eInt y2), .fz (eInt r4.1), .fz (eInt r4.2), .fz ((eT eInt) r91), .fz (eStr r92.1), .fz (eD r92.2), .fz ((eL (eT eInt)) r98), .fz ((eL (eT eInt)) r127), .fz ((eL eD) r164), .un, .un, .un, .un, .un, .un, .un]) (q_set 10 (f_e (f_list (l_cons (e_enc (eb := eD) (fun x => eNon x) e_non (fun _ => rfl)) (l_cons (e_enc (eb := eD) (fun x => eBool x) e_bool (fun _ => rfl)) (l_cons (e_enc (eb := eD) (fun x => eInt x) e_int (fun _ => rfl)) (l_cons (e_enc (eb := eD) (fun x => eStr x) e_str (fun _ => rfl)) (l_cons (e_enc (eb := eD) (fun x => (eP (eC eBool (eC eInt (eC eInt eU)))) x) (e_tup (eC eBool (eC eInt (eC eInt eU))) (a_cons e_bool (a_cons e_int (a_cons e_int a_nil))) (hl := fun _ => (by decide : 3 ≤ sizeLine))) (fun _ => rfl)) (l_cons (e_enc (eb := eD) (fun x => (eL eInt) x) (f_e (f_list (l_cons e_int (l_cons e_int (l_cons e_int l_nil))))) (fun _ => rfl)) (l_cons (e_enc (eb := eD) (fun x => (eP (eC eInt (eC eInt (eC eInt eU)))) x) (e_tup (eC eInt (eC eInt (eC eInt eU))) (a_cons e_int (a_cons e_int (a_cons e_int a_nil))) (hl := fun _ => (by decide : 3 ≤ sizeLine))) (fun _ => rfl)) (l_cons (e_enc (eb := eD) (fun x => (eP (eC eInt (eC eInt eU))) x) (e_tup (eC eInt (eC eInt eU)) (a_cons (e_neg e_int) (a_cons e_int a_nil)) (hl := fun _ => (by decide : 2 ≤ sizeLine))) (fun _ => rfl)) (l_cons (e_enc (eb := eD) (fun x => (eP (eC eInt (eC eInt (eC eInt eU)))) x) (e_tup (eC eInt (eC eInt (eC eInt eU))) (a_cons (e_pow e_int e_int) (a_cons e_int (a_cons e_int a_nil))) (hl := fun _ => (by decide : 3 ≤ sizeLine))) (fun _ => rfl)) (l_cons (e_enc (eb := eD) (fun x => (eP (eC eStr eU)) x) (e_tup (eC eStr eU) (a_cons e_str a_nil) (hl := fun _ => (by decide : 1 ≤ sizeLine))) (fun _ => rfl)) l_nil)))))))))))) sc.nd) (fun (r164 : (List PyData)) => (s_step (Γ1 := fun (r228 : PyData) => [.un, .src, .fz (eInt y2), .fz (eInt r4.1), .fz (eInt r4.2), .fz ((eT eInt) r91), .fz (eStr r92.1), .fz (eD r92.2), .fz ((eL (eT eInt)) r98), .fz ((eL (eT eInt)) r127), .fz (eD r228), .un, .un, .un, .un, .un, .un, .un]) (q_set 10 (e_cs1 1 ((F__law_of.L eD).mono (by decide)) hG hr C__law_of.mg C__law_of.kp C__law_of.bd (e_var 10 (eL eD) r164)) sc.nd) (fun (r228 : PyData) => (s_step (Γ1 := fun (r230 : (List Int)) => [.un, .src, .fz (eInt y2), .fz (eInt r4.1), .fz (eInt r4.2), .fz ((eT eInt) r91), .fz (eStr r92.1), .fz (eD r92.2), .fz ((eL (eT eInt)) r98), .fz ((eL (eT eInt)) r127), .fz (eD r228), .fz ((eT eInt) r230), .un, .un, .un, .un, .un, .un]) (q_set 11 (e_cs1 1 ((F__law_of.L (eT eInt)).mono (by decide)) hG hr C__law_of.mg C__law_of.kp C__law_of.bd (e_var 9 (eL (eT eInt)) r127)) sc.nd) (fun (r230 : (List Int)) => (s_step (Γ1 := fun (r232 : (List PyData)) => [.un, .src, .fz (eInt y2), .fz (eInt r4.1), .fz (eInt r4.2), .fz ((eT eInt) r91), .fz (eStr r92.1), .fz (eD r92.2), .fz ((eL (eT eInt)) r98), .fz ((eL (eT eInt)) r127), .fz (eD r228), .fz ((eT eInt) r230), .ow ((eL eD) r232), .un, .un, .un, .un, .un]) (q_setF 12 (f_list (l_cons (e_var 7 eD r92.2) (l_cons (e_enc (eb := eD) (fun x => (eL eD) x) (f_e (f_t1 (ea := (eT eD)) (ec := eD) (f := fun x => some x) call_list_of v_listT B.b_list bt_list (e_dTup (e_var 7 eD r92.2)))) (fun _ => rfl)) (l_cons (e_enc (eb := eD) (fun x => (eT eD) x) (e_catT (e_dTup (e_var 7 eD r92.2)) (e_enc (eb := (eT eD)) (fun p : (Int × Unit) => [eInt p.1]) (e_tup (eC eInt eU) (a_cons e_int a_nil) (hl := fun _ => (by decide : 1 ≤ sizeLine))) (fun _ => rfl))) (fun _ => rfl)) (l_cons (e_enc (eb := eD) (fun x => (eP (eC eStr eU)) x) (e_tup (eC eStr eU) (a_cons e_str a_nil) (hl := fun _ => (by decide : 1 ≤ sizeLine))) (fun _ => rfl)) (l_cons (e_enc (eb := eD) (fun x => (eP (eC eStr (eC (eT eInt) eU))) x) (e_tup (eC eStr (eC (eT eInt) eU)) (a_cons e_str (a_cons (e_var 11 (eT eInt) r230) a_nil)) (hl := fun _ => (by decide : 2 ≤ sizeLine))) (fun _ => rfl)) (l_cons (e_enc (eb := eD) (fun x => (eP (eC eStr (eC eD eU))) x) (e_tup (eC eStr (eC eD eU)) (a_cons e_str (a_cons (e_var 10 eD r228) a_nil)) (hl := fun _ => (by decide : 2 ≤ sizeLine))) (fun _ => rfl)) (l_cons (e_enc (eb := eD) (fun x => (eP (eC eD eU)) x) (e_tup (eC eD eU) (a_cons (e_var 10 eD r228) a_nil) (hl := fun _ => (by decide : 1 ≤ sizeLine))) (fun _ => rfl)) (l_cons (e_enc (eb := eD) (fun x => (eP (eC eStr eU)) x) (e_tup (eC eStr eU) (a_cons e_str a_nil) (hl := fun _ => (by decide : 1 ≤ sizeLine))) (fun _ => rfl)) (l_cons (e_enc (eb := eD) (fun x => eNon x) e_non (fun _ => rfl)) l_nil)))))))))) sc.nd) (fun (r232 : (List PyData)) => (s_step (Γ1 := fun (r283 : (List PyData)) => [.un, .src, .fz (eInt y2), .fz (eInt r4.1), .fz (eInt r4.2), .fz ((eT eInt) r91), .fz (eStr r92.1), .fz (eD r92.2), .fz ((eL (eT eInt)) r98), .fz ((eL (eT eInt)) r127), .fz (eD r228), .fz ((eT eInt) r230), .ow ((eL eD) r283), .un, .un, .un, .un, .un]) (q_app 12 r232 (e_enc (eb := eD) (fun x => (eP eU) x) (e_tup eU a_nil (hl := fun _ => (by decide : 0 ≤ sizeLine))) (fun _ => rfl))) (fun (r283 : (List PyData)) => (s_low (Γ' := [.un, .src, .fz (eInt y2), .fz (eInt r4.1), .fz (eInt r4.2), .fz ((eT eInt) r91), .fz (eStr r92.1), .fz (eD r92.2), .fz ((eL (eT eInt)) r98), .fz ((eL (eT eInt)) r127), .fz (eD r228), .fz ((eT eInt) r230), .fz ((eL eD) r283), .un, .un, .un, .un, .un]) (.un (.eq (.eq (.eq (.eq (.eq (.eq (.eq (.eq (.eq (.eq (.eq (.fr (.un (.un (.un (.un (.un .nil)))))))))))))))))) (s_step (Γ1 := fun (r286 : (List PyData)) => [.un, .src, .fz (eInt y2), .fz (eInt r4.1), .fz (eInt r4.2), .fz ((eT eInt) r91), .fz (eStr r92.1), .fz (eD r92.2), .fz ((eL (eT eInt)) r98), .fz ((eL (eT eInt)) r127), .fz (eD r228), .fz ((eT eInt) r230), .fz ((eL eD) r286), .un, .un, .un, .un, .un]) (q_set 12 (f_e (f_catL (f_e (f_catL (e_var 12 (eL eD) r283) (f_e (f_lc (set := (st1 17 (eT eInt))) (is := [17]) [("one", 17)] (fun (y291 : (List Int)) => (pureM true)) (fun (y291 : (List Int)) => (Pz.bindM (Pz.bindM (pureM ("found" : Str)) fun (x294 : Str) => (Pz.bindM (Pz.bindM (pureM y291) fun (x292 : (List Int)) => (Pz.bindM (pureM ()) fun (x293 : Unit) => pureM (x292, x293))) fun (x295 : ((List Int) × Unit)) => pureM (x294, x295))) fun (x296 : (Str × (List Int) × Unit)) => pureM ((eP (eC eStr (eC (eT eInt) eU))) x296))) rfl sc.nd (i_list (f_e (f_slL (e_var 9 (eL (eT eInt)) r127) p_none (p_some e_int)))) (blkOk_by (N := N_law) (sc := (defScope s_law)) (by decide +kernel)) (fun _ _ _ _ _ => (g1 17 (eT eInt) sc.nd)) (fun _ _ _ _ _ (y291 : (List Int)) => c_nil) (fun _ _ _ _ _ (y291 : (List Int)) => (e_enc (eb := eD) (fun x => (eP (eC eStr (eC (eT eInt) eU))) x) (e_tup (eC eStr (eC (eT eInt) eU)) (a_cons e_str (a_cons (e_var 17 (eT eInt) y291) a_nil)) (hl := fun _ => (by decide : 2 ≤ sizeLine))) (fun _ => rfl))) noow1 sm1 (fun _ h => h) (noOw rfl))))) (f_e (f_list (l_cons (e_enc (eb := eD) (fun x => (eP (eC eStr (eC (eL eInt) eU))) x) (e_tup (eC eStr (eC (eL eInt) eU)) (a_cons e_str (a_cons (f_e (f_t1 (ea := (eT eInt)) (ec := eInt) (f := fun x => some x) call_list_of v_listT B.b_list bt_list (e_var 11 (eT eInt) r230))) a_nil)) (hl := fun _ => (by decide : 2 ≤ sizeLine))) (fun _ => rfl)) (l_cons (e_enc (eb := eD) (fun x => (eP (eC eStr (eC (eT eInt) eU))) x) (e_tup (eC eStr (eC (eT eInt) eU)) (a_cons e_str (a_cons (e_revT (e_var 11 (eT eInt) r230)) a_nil)) (hl := fun _ => (by decide : 2 ≤ sizeLine))) (fun _ => rfl)) (l_cons (e_enc (eb := eD) (fun x => eStr x) e_str (fun _ => rfl)) l_nil))))))) sc.nd) (fun (r286 : (List PyData)) => (s_step (Γ1 := fun (r321 : (List PyData)) => [.un, .src, .fz (eInt y2), .fz (eInt r4.1), .fz (eInt r4.2), .fz ((eT eInt) r91), .fz (eStr r92.1), .fz (eD r92.2), .fz ((eL (eT eInt)) r98), .fz ((eL (eT eInt)) r127), .fz (eD r228), .fz ((eT eInt) r230), .fz ((eL eD) r321), .un, .un, .un, .un, .un]) (q_set 12 (f_e (f_catL (f_e (f_catL (e_var 12 (eL eD) r286) (f_e (f_list (l_cons (e_enc (eb := eD) (fun x => (eP (eC eStr eU)) x) (e_tup (eC eStr eU) (a_cons e_str a_nil) (hl := fun _ => (by decide : 1 ≤ sizeLine))) (fun _ => rfl)) (l_cons (e_enc (eb := eD) (fun x => (eP (eC eStr (eC (eT eInt) (eC (eT eInt) eU)))) x) (e_tup (eC eStr (eC (eT eInt) (eC (eT eInt) eU))) (a_cons e_str (a_cons (e_var 11 (eT eInt) r230) (a_cons (e_var 11 (eT eInt) r230) a_nil))) (hl := fun _ => (by decide : 3 ≤ sizeLine))) (fun _ => rfl)) (l_cons (e_enc (eb := eD) (fun x => (eP (eC eD (eC (eT eInt) eU))) x) (e_tup (eC eD (eC (eT eInt) eU)) (a_cons (e_var 10 eD r228) (a_cons (e_var 11 (eT eInt) r230) a_nil)) (hl := fun _ => (by decide : 2 ≤ sizeLine))) (fun _ => rfl)) l_nil))))))) (f_e (f_lc (set := (st1 17 (eT eInt))) (is := [17]) [("one", 17)] (fun (y350 : (List Int)) => (pureM true)) (fun (y350 : (List Int)) => (Pz.bindM (Pz.bindM (pureM ("found" : Str)) fun (x353 : Str) => (Pz.bindM (Pz.bindM (pureM y350) fun (x351 : (List Int)) => (Pz.bindM (pureM ()) fun (x352 : Unit) => pureM (x351, x352))) fun (x354 : ((List Int) × Unit)) => pureM (x353, x354))) fun (x355 : (Str × (List Int) × Unit)) => pureM ((eP (eC eStr (eC (eT eInt) eU))) x355))) rfl sc.nd (i_list (f_e (f_slL (e_var 8 (eL (eT eInt)) r98) (p_some (e_neg e_int)) p_none))) (blkOk_by (N := N_law) (sc := (defScope s_law)) (by decide +kernel)) (fun _ _ _ _ _ => (g1 17 (eT eInt) sc.nd)) (fun _ _ _ _ _ (y350 : (List Int)) => c_nil) (fun _ _ _ _ _ (y350 : (List Int)) => (e_enc (eb := eD) (fun x => (eP (eC eStr (eC (eT eInt) eU))) x) (e_tup (eC eStr (eC (eT eInt) eU)) (a_cons e_str (a_cons (e_var 17 (eT eInt) y350) a_nil)) (hl := fun _ => (by decide : 2 ≤ sizeLine))) (fun _ => rfl))) noow1 sm1 (fun _ h => h) (noOw rfl))))) sc.nd) (fun (r321 : (List PyData)) => (s_step2 (er := eBool) (Γ1 := (fun (b : Unit) => [.un, .src, .fz (eInt y2), .fz (eInt r4.1), .fz (eInt r4.2), .fz ((eT eInt) r91), .fz (eStr r92.1), .fz (eD r92.2), .fz ((eL (eT eInt)) r98), .fz ((eL (eT eInt)) r127), .fz (eD r228), .fz ((eT eInt) r230), .fz ((eL eD) r321), .un, .un, .un, .un, .un])) (Γb := (fun (b : Unit) => [.un, .src, .un, .un, .un, .un, .un, .un, .un, .un, .un, .un, .un, .un, .un, .un, .un, .un])) (q_forO (er := eBool) (set := (st1 13 eD)) (is := [13]) (fun (b : Unit) => [.un, .src, .fz (eInt y2), .fz (eInt r4.1), .fz (eInt r4.2), .fz ((eT eInt) r91), .fz (eStr r92.1), .fz (eD r92.2), .fz ((eL (eT eInt)) r98), .fz ((eL (eT eInt)) r127), .fz (eD r228), .fz ((eT eInt) r230), .fz ((eL eD) r321), .un, .un, .un, .un, .un]) () (fun (b360 : Unit) (y359 : PyData) => (Pz.bindM (Pz.bindM (Pz.bindM (pureM r4.1) fun (x362 : Int) => (Pz.bindM (pureM r91) fun (x363 : (List Int)) => (Pz.bindM (pureM y359) fun (x364 : PyData) => m__law_fault x362 x363 x364))) fun (x366 : PyData) => (Pz.bindM (Pz.bindM (pureM y359) fun (x365 : PyData) => optM (reprO (eD x365))) fun (x367 : Str) => pureM (x366, x367))) fun (r361 : (PyData × Str)) => (Pz.bindM (Pz.bindM (Pz.bindM (Pz.bindM (Pz.bindM (pureM r4.1) fun (x368 : Int) => (Pz.bindM (pureM r91) fun (x369 : (List Int)) => (Pz.bindM (pureM y359) fun (x370 : PyData) => m_judge_free x368 x369 x370))) fun (x371 : PyData) => optM (reprO (eD x371))) fun (x373 : Str) => (Pz.bindM (Pz.bindM (pureM r361.1) fun (x372 : PyData) => optM (reprO (eD x372))) fun (x374 : Str) => pureM (!decide (x373 = x374)))) fun (x378 : Bool) => if x378 then pureM true else (Pz.bindM (Pz.bindM (pureM y359) fun (x375 : PyData) => optM (reprO (eD x375))) fun (x376 : Str) => (Pz.bindM (pureM r361.2) fun (x377 : Str) => pureM (!decide (x376 = x377))))) fun (x379 : Bool) => if x379 then Pz.bindM (pureM false) (fun (x394 : Bool) => pureM (Out.rt x394)) else (Pz.bindM (Pz.bindM (Pz.bindM (pureM r361.1) fun (x380 : PyData) => pureM (isNon x380)) fun (x391 : Bool) => if x391 then (Pz.bindM (Pz.bindM (Pz.bindM (pureM y359) fun (x381 : PyData) => optM (asTup x381)) fun (x382 : (List PyData)) => (Pz.bindM (pureM (0 : Int)) fun (x383 : Int) => optM (atI x382 x383))) fun (x389 : PyData) => (Pz.bindM (Pz.bindM (Pz.bindM (pureM r92.2) fun (x384 : PyData) => optM (asTup x384)) fun (x385 : (List PyData)) => (Pz.bindM (pureM (0 : Int)) fun (x386 : Int) => optM (atI x385 x386))) fun (x390 : PyData) => optM ((eqD (eD x389) (eD x390)).map (!·)))) else pureM false) fun (x392 : Bool) => if x392 then Pz.bindM (pureM false) (fun (x393 : Bool) => pureM (Out.rt x393)) else (pureM (Out.nx ())))))) PassesOwn.never rfl (i_list (e_var 12 (eL eD) r321)) (g1 13 eD sc.nd) noow1 (.un (.eq (.eq (.eq (.eq (.eq (.eq (.eq (.eq (.eq (.eq (.eq (.eq (.un (.un (.un (.un (.un .nil)))))))))))))))))) (fun (b360 : Unit) (y359 : PyData) => (s_step (Γ1 := fun (r361 : (PyData × Str)) => [.un, .src, .fz (eInt y2), .fz (eInt r4.1), .fz (eInt r4.2), .fz ((eT eInt) r91), .fz (eStr r92.1), .fz (eD r92.2), .fz ((eL (eT eInt)) r98), .fz ((eL (eT eInt)) r127), .fz (eD r228), .fz ((eT eInt) r230), .fz ((eL eD) r321), .fz (eD y359), .fz (eD r361.1), .fz (eStr r361.2), .un, .un]) (q_par2 14 15 (e_c3 (F__law_fault.mono (by decide)) hG hr C__law_fault.mg C__law_fault.kp C__law_fault.bd (e_var 3 eInt r4.1) (e_var 5 (eT eInt) r91) (e_var 13 eD y359)) (e_repr (ea := eD) hr hG B.b_repr bt_repr (e_var 13 eD y359)) rfl sc.nd) (fun (r361 : (PyData × Str)) => (s_ifret2 (Γb := (fun (b : Unit) => [.un, .src, .fz (eInt y2), .fz (eInt r4.1), .fz (eInt r4.2), .fz ((eT eInt) r91), .fz (eStr r92.1), .fz (eD r92.2), .fz ((eL (eT eInt)) r98), .fz ((eL (eT eInt)) r127), .fz (eD r228), .fz ((eT eInt) r230), .fz ((eL eD) r321), .un, .un, .un, .un, .un])) (w_t (w_or (t_neT (e_repr (ea := eD) hr hG B.b_repr bt_repr (e_c3 (F_judge_free.mono (by decide)) hG hr C_judge_free.mg C_judge_free.kp C_judge_free.bd (e_var 3 eInt r4.1) (e_var 5 (eT eInt) r91) (e_var 13 eD y359))) (e_repr (ea := eD) hr hG B.b_repr bt_repr (e_var 14 eD r361.1))) (w_or1 (t_neT (e_repr (ea := eD) hr hG B.b_repr bt_repr (e_var 13 eD y359)) (e_var 15 eStr r361.2))))) (s_ret0 e_bool) (s_ifret2 (Γb := (fun (b : Unit) => [.un, .src, .fz (eInt y2), .fz (eInt r4.1), .fz (eInt r4.2), .fz ((eT eInt) r91), .fz (eStr r92.1), .fz (eD r92.2), .fz ((eL (eT eInt)) r98), .fz ((eL (eT eInt)) r127), .fz (eD r228), .fz ((eT eInt) r230), .fz ((eL eD) r321), .un, .un, .un, .un, .un])) (w_t (w_and (t_isNd (e_var 14 eD r361.1)) (w_and1 (t_neD hr (e_ixT (e_dTup (e_var 13 eD y359)) e_int) (e_ixT (e_dTup (e_var 7 eD r92.2)) e_int))))) (s_ret0 e_bool) (s_nilO (Γb := (fun (b : Unit) => [.un, .src, .fz (eInt y2), .fz (eInt r4.1), .fz (eInt r4.2), .fz ((eT eInt) r91), .fz (eStr r92.1), .fz (eD r92.2), .fz ((eL (eT eInt)) r98), .fz ((eL (eT eInt)) r127), .fz (eD r228), .fz ((eT eInt) r230), .fz ((eL eD) r321), .un, .un, .un, .un, .un])) () (.un (.eq (.eq (.eq (.eq (.eq (.eq (.eq (.eq (.eq (.eq (.eq (.eq (.un (.un (.un (.un (.un .nil))))))))))))))))))))))))) (fun (r396 : Unit) => (s_ifret2 (Γb := (fun (b : Unit) => [.un, .src, .un, .un, .un, .un, .un, .un, .un, .un, .un, .un, .un, .un, .un, .un, .un, .un])) (t_neT (e_repr (ea := (eT eInt)) hr hG B.b_repr bt_repr (e_var 5 (eT eInt) r91)) (e_var 6 eStr r92.1)) (s_ret0 e_bool) (s_nilO (Γb := (fun (b : Unit) => [.un, .src, .un, .un, .un, .un, .un, .un, .un, .un, .un, .un, .un, .un, .un, .un, .un, .un])) () (.un (.eq (.un (.un (.un (.un (.un (.un (.un (.un (.un (.un (.un (.un (.un (.un (.un (.un .nil)))))))))))))))))))))))))))))))))))))))))))))))))))) (fun (r404 : Unit) => (s_ret0 (e_eqD hr (e_c3 (F_judge_free.mono (by decide)) hG hr C_judge_free.mg C_judge_free.kp C_judge_free.bd e_int (e_tupl (l_cons e_int (l_cons e_int l_nil))) (e_enc (eb := eD) (fun x => (eP (eC eStr (eC (eP (eC eInt (eC eInt (eC eInt eU)))) eU))) x) (e_tup (eC eStr (eC (eP (eC eInt (eC eInt (eC eInt eU)))) eU)) (a_cons e_str (a_cons (e_tup (eC eInt (eC eInt (eC eInt eU))) (a_cons e_int (a_cons e_int (a_cons e_int a_nil))) (hl := fun _ => (by decide : 3 ≤ sizeLine))) a_nil)) (hl := fun _ => (by decide : 2 ≤ sizeLine))) (fun _ => rfl))) (e_tup (eC eStr (eC eInt eU)) (a_cons e_str (a_cons e_int a_nil)) (hl := fun _ => (by decide : 2 ≤ sizeLine)))))))

end
end Lw

namespace Lw
open PySem PySem.Spec PyProof.Rows L2 Pz
theorem fm_congr {α β : Type} {f g : α → List β} : ∀ {xs : List α}, (∀ x ∈ xs, f x = g x) → xs.flatMap f = xs.flatMap g
  | [], _ => rfl
  | x :: xs, h => by rw [List.flatMap_cons, List.flatMap_cons, h x List.mem_cons_self, fm_congr fun y hy => h y (List.mem_cons_of_mem _ hy)]
theorem flatMap_len {α β : Type} {h : α → List β} {k : Nat} : ∀ {xs : List α}, (∀ x ∈ xs, (h x).length ≤ k) → (xs.flatMap h).length ≤ xs.length * k
  | [], _ => by simp
  | x :: xs, hx => by
    have h1 := hx x List.mem_cons_self
    have h2 := flatMap_len (xs := xs) fun y hy => hx y (List.mem_cons_of_mem _ hy)
    simp only [List.flatMap_cons, List.length_append, List.length_cons, Nat.succ_mul]
    omega
def sumsL (n : Int) : List (List Int) := (irange 1 (n + 1)).flatMap fun a => (irange a (n - a + 1)).map fun b => [a, b, a + b]
theorem sums_len {n : Int} (h0 : 0 ≤ n) (h : n ≤ 30) : (sumsL n).length ≤ 1000 := by
  have := flatMap_len (h := fun a => (irange a (n - a + 1)).map fun b => [a, b, a + b]) (k := 31) (xs := irange 1 (n + 1)) fun x hx => by
    rw [mem_irange] at hx
    simp only [List.length_map, length_irange]; omega
  unfold sumsL
  rw [length_irange] at this
  omega
theorem p_sums {n : Int} (h0 : 0 ≤ n) (h : n ≤ 30) : m_sums_to n = pureM (sumsL n) := by
  unfold m_sums_to
  simp only [bp, bind_ret]
  rw [smallM_pure (by simp), bp, rangeM_sm (by omega) (by omega) (by omega) (by omega), bp]
  rw [forM_acc (fun a => (irange a (n - a + 1)).map fun b => [a, b, a + b]) 16777216 (fun a ha b hb => ?_) (nil_le (sums_len h0 h))]
  · rfl
  · rw [mem_irange] at ha
    rw [rangeM_sm (by omega) (by omega) (by omega) (by omega), bp, compM_map (fun b => [a, b, a + b]) fun x _ => smallM_pure (by simp [sizeLine])]
    rw [bp, extM_ok hb]
def rowsL (k n : Int) : List (List Int) := (irange 1 (n + 1)).flatMap fun a => (irange 1 ((n - a).fdiv (k - 1) + 1)).map fun d => (irange 0 k).map fun i => a + i * d
theorem fdiv_le {x y : Int} (hx : 0 ≤ x) (hy : 1 ≤ y) : 0 ≤ x.fdiv y ∧ x.fdiv y ≤ x := by
  rw [Int.fdiv_eq_ediv_of_nonneg _ (by omega)]
  exact ⟨Int.ediv_nonneg hx (by omega), Int.ediv_le_self _ hx⟩
theorem rows_len {k n : Int} (hk : 2 ≤ k) (h0 : 0 ≤ n) (h : n ≤ 30) : (rowsL k n).length ≤ 1000 := by
  have := flatMap_len (h := fun a => (irange 1 ((n - a).fdiv (k - 1) + 1)).map fun d => (irange 0 k).map fun i => a + i * d) (k := 31) (xs := irange 1 (n + 1)) fun x hx => by
    rw [mem_irange] at hx
    have := fdiv_le (x := n - x) (y := k - 1) (by omega) (by omega)
    simp only [List.length_map, length_irange]; omega
  unfold rowsL
  rw [length_irange] at this
  omega
theorem p_rows {k n : Int} (hk : 2 ≤ k) (hk5 : k ≤ 5) (h0 : 0 ≤ n) (h : n ≤ 30) : m_rows_to k n = pureM (rowsL k n) := by
  unfold m_rows_to
  simp only [bp, bind_ret]
  rw [smallM_pure (by simp), bp, rangeM_sm (by omega) (by omega) (by omega) (by omega), bp]
  rw [forM_acc (fun a => (irange 1 ((n - a).fdiv (k - 1) + 1)).map fun d => (irange 0 k).map fun i => a + i * d) 16777216 (fun a ha b hb => ?_) (nil_le (rows_len hk h0 h))]
  · rfl
  · rw [mem_irange] at ha
    have hd := fdiv_le (x := n - a) (y := k - 1) (by omega) (by omega)
    rw [divO_ok (by omega), optM_some]
    simp only [bp]
    rw [rangeM_sm (lo := 1) (by omega) (by omega) (by omega) (by omega), bp]
    rw [List.map_eq_flatMap] at hb ⊢
    refine forM_acc _ 16777216 (fun d hd' c hc => ?_) hb
    rw [mem_irange] at hd'
    rw [rangeM_sm (by omega) (by omega) (by omega) (by omega), bp, compM_map (fun i => a + i * d) fun i hi => ?_]
    · rw [bp, optM_some, bp, appM_ok (by simp at hc; unfold sizeLine; omega)]
    · rw [mem_irange] at hi
      rw [mulO_ok (by omega), optM_some, bp]
/-! ### the law's own list -/
def rowL (k a b : Int) : List Int := if k = 0 then [a, b, a + b] else (irange 0 k).map fun i => a + i * (b - a)
def lastL (k a b : Int) : Int := if k = 0 then a + b else a + (k - 1) * (b - a)
def tupsL (k n : Int) : List (List Int) := (irange 1 (n + 1)).flatMap fun a => (irange (if k = 0 then a else a + 1) (n + 1)).flatMap fun b => if lastL k a b ≤ n then [rowL k a b] else []
theorem tups_len {k n : Int} (h0 : 0 ≤ n) (h : n ≤ 30) : (tupsL k n).length ≤ 1000 := by
  have := flatMap_len (h := fun a => (irange (if k = 0 then a else a + 1) (n + 1)).flatMap fun b => if lastL k a b ≤ n then [rowL k a b] else []) (k := 31) (xs := irange 1 (n + 1)) fun x hx => by
    rw [mem_irange] at hx
    have := flatMap_len (h := fun b => if lastL k x b ≤ n then [rowL k x b] else []) (k := 1) (xs := irange (if k = 0 then x else x + 1) (n + 1)) fun y _ => by split <;> simp
    have hl : (irange (if k = 0 then x else x + 1) (n + 1)).length ≤ 31 := by rw [length_irange]; split <;> omega
    omega
  unfold tupsL
  rw [length_irange] at this
  omega
theorem irange_ne {k : Int} (hk : 2 ≤ k) : (irange 0 k) = irange 0 (k - 1) ++ [k - 1] := by
  obtain ⟨m, rfl⟩ : ∃ m : Nat, k = (m : Int) + 2 := ⟨(k - 2).toNat, by omega⟩
  unfold irange
  rw [show ((m : Int) + 2 - 0).toNat = m + 1 + 1 by omega, show ((m : Int) + 2 - 1 - 0).toNat = m + 1 by omega, List.range_succ, List.map_append]
  simp
  omega
theorem atI_last {α : Type} (xs : List α) (x : α) : atI (xs ++ [x]) (-1) = some x := by
  unfold atI L2.ixN
  rw [if_neg (by omega), List.length_append, List.length_singleton, if_pos (by omega), show (-1 + ((xs.length + 1 : Nat) : Int)).toNat = xs.length by omega]
  simp
theorem last_row {k a b : Int} (hk : k = 0 ∨ 2 ≤ k) : atI (rowL k a b) (-1) = some (lastL k a b) := by
  unfold rowL lastL
  rcases hk with rfl | hk
  · simp only [if_true]
    exact atI_last [a, b] (a + b)
  · rw [if_neg (by omega), if_neg (by omega), irange_ne hk, List.map_append]
    exact atI_last _ _
theorem rep01 {α : Type} (r : α) (c : Bool) : repO [r] (if c = true then 1 else 0) = some (if c then [r] else []) := by
  cases c <;> simp [repO, sizeLine]
theorem tail_step {r : List Int} {l n : Int} {b : List (List Int)} (hl : atI r (-1) = some l) (hb : b.length + (if l ≤ n then [r] else []).length ≤ 16777216) :
    (Pz.bindM (Pz.bindM (smallM (pureM [r])) fun x68 => Pz.bindM (Pz.bindM (Pz.bindM (optM (atI r (-1))) fun x65 => pureM (decide (x65 ≤ n))) fun x67 => pureM (if x67 = true then 1 else 0)) fun x69 => optM (repO x68 x69)) fun x71 => optM (catO b x71)) = pureM (b ++ if l ≤ n then [r] else []) := by
  rw [smallM_pure (by simp [sizeLine]), bp, hl, optM_some]
  simp only [bp]
  rw [rep01, optM_some]
  simp only [bp]
  have e : (if decide (l ≤ n) = true then [r] else []) = if l ≤ n then [r] else [] := by by_cases q : l ≤ n <;> simp [q]
  rw [e, catO_ok hb, optM_some]
theorem p_ltups {k n : Int} (hk : k = 0 ∨ 2 ≤ k) (hk5 : k ≤ 5) (h0 : 0 ≤ n) (h : n ≤ 30) : m__law_tuples k n = optM (srtO (fun r : List Int => !r.isEmpty) (eT eInt) (tupsL k n)) := by
  unfold m__law_tuples
  simp only [bp, bind_ret]
  rw [smallM_pure (by simp), bp, rangeM_sm (lo := 1) (by omega) (by omega) (by omega) (by omega), bp]
  rw [forM_acc (fun a => (irange (if k = 0 then a else a + 1) (n + 1)).flatMap fun b => if lastL k a b ≤ n then [rowL k a b] else []) 16777216 (fun a ha b hb => ?_) (nil_le (tups_len h0 h))]
  · rfl
  · rw [mem_irange] at ha
    rcases hk with rfl | hk
    · simp only [decide_true, if_true, bp, optM_some]
      simp only [if_true] at hb
      rw [rangeM_sm (by omega) (by omega) (by omega) (by omega), bp]
      refine forM_acc _ 16777216 (fun d hd c hc => ?_) hb
      rw [smallM_pure (xs := [a, d, a + d]) (by simp [sizeLine])]
      simp only [bp]
      exact tail_step (last_row (k := 0) (a := a) (b := d) (.inl rfl)) hc
    · simp only [show decide (k = 0) = false by simp; omega, Bool.false_eq_true, if_false, bp, optM_some]
      rw [if_neg (by omega)] at hb ⊢
      rw [rangeM_sm (lo := a + 1) (by omega) (by omega) (by omega) (by omega), bp]
      refine forM_acc _ 16777216 (fun d hd c hc => ?_) hb
      rw [mem_irange] at hd
      rw [rangeM_sm (by omega) (by omega) (by omega) (by omega), bp, compM_map (fun i => a + i * (d - a)) fun i hi => ?_]
      · rw [bp, bp]
        have e : (irange 0 k).map (fun i => a + i * (d - a)) = rowL k a d := by unfold rowL; rw [if_neg (by omega)]
        rw [e]
        exact tail_step (last_row (.inr hk)) hc
      · rw [mulO_ok (by omega), optM_some, bp]
/-! ### the same lists -/
theorem irange_filter {α : Type} (f : Int → α) (p : Int → Prop) [DecidablePred p] {lo hi m : Int} (hm : m ≤ hi) (hp : ∀ i, lo ≤ i → i < hi → (p i ↔ i < m)) : ((irange lo hi).flatMap fun b => if p b then [f b] else []) = (irange lo m).map f := by
  by_cases hlm : lo ≤ m
  · have e : irange lo hi = irange lo m ++ irange m hi := by
      unfold irange
      rw [show (hi - lo).toNat = (m - lo).toNat + (hi - m).toNat by omega, List.range_add, List.map_append, List.map_map]
      congr 1
      apply List.map_congr_left
      intro j hj
      simp only [Function.comp]
      omega
    rw [e, List.flatMap_append]
    have e1 : ((irange lo m).flatMap fun b => if p b then [f b] else []) = (irange lo m).map f := by
      rw [List.map_eq_flatMap]
      apply fm_congr
      intro b hb
      rw [mem_irange] at hb
      rw [if_pos ((hp b hb.1 (by omega)).mpr hb.2)]
    have e2 : ((irange m hi).flatMap fun b => if p b then [f b] else []) = [] := by
      rw [List.flatMap_eq_nil_iff]
      intro b hb
      rw [mem_irange] at hb
      rw [if_neg fun z => by have := (hp b (by omega) hb.2).mp z; omega]
    rw [e1, e2, List.append_nil]
  · have e0 : irange lo m = [] := by unfold irange; rw [show (m - lo).toNat = 0 by omega]; rfl
    rw [e0, List.map_nil, List.flatMap_eq_nil_iff]
    intro b hb
    rw [mem_irange] at hb
    rw [if_neg fun z => by have := (hp b (by omega) hb.2).mp z; omega]
theorem irange_shift (a hi : Int) : irange (a + 1) hi = (irange 1 (hi - a)).map fun d => a + d := by
  unfold irange
  rw [List.map_map, show (hi - (a + 1)).toNat = (hi - a - 1).toNat by omega]
  apply List.map_congr_left
  intro j hj
  simp only [Function.comp]
  omega
theorem sums_eq (n : Int) : sumsL n = tupsL 0 n := by
  unfold sumsL tupsL
  apply fm_congr
  intro a ha
  rw [mem_irange] at ha
  simp only [if_true]
  have := irange_filter (fun b => rowL 0 a b) (fun b => lastL 0 a b ≤ n) (lo := a) (hi := n + 1) (m := n - a + 1) (by omega) fun i h1 h2 => by simp only [lastL, if_true]; omega
  rw [this]
  rfl
theorem rows_eq {k n : Int} (hk : 2 ≤ k) : rowsL k n = tupsL k n := by
  unfold rowsL tupsL
  apply fm_congr
  intro a ha
  rw [mem_irange] at ha
  rw [if_neg (by omega), irange_shift, List.flatMap_map]
  have := irange_filter (fun d => rowL k a (a + d)) (fun d => lastL k a (a + d) ≤ n) (lo := 1) (hi := n + 1 - a) (m := (n - a).fdiv (k - 1) + 1) (by have := fdiv_le (x := n - a) (y := k - 1) (by omega) (by omega); omega) fun i h1 h2 => by
    unfold lastL
    rw [if_neg (by omega), show a + i - a = i by omega, Int.fdiv_eq_ediv_of_nonneg _ (by omega)]
    have : i ≤ (n - a) / (k - 1) ↔ i * (k - 1) ≤ n - a := Int.le_ediv_iff_mul_le (by omega)
    rw [Int.mul_comm] at this
    omega
  rw [this]
  apply List.map_congr_left
  intro d hd
  unfold rowL
  rw [if_neg (by omega)]
  apply List.map_congr_left
  intro i hi
  rw [show a + d - a = d by omega]
end Lw

namespace Lw
open PySem PySem.Spec PyProof.Rows L2 Pz
def TS (k n : Int) : List (List Int) := srt (eT eInt) (tupsL k n)
theorem ts_mem {k n : Int} {r : List Int} : r ∈ TS k n ↔ r ∈ tupsL k n := (List.mergeSort_perm _ _).mem_iff
theorem ts_len {k n : Int} (h0 : 0 ≤ n) (h : n ≤ 30) : (TS k n).length ≤ 1000 := by
  unfold TS srt
  rw [List.length_mergeSort]
  exact tups_len h0 h
theorem tups_in {k n : Int} (hk : k = 0 ∨ 2 ≤ k) (hk5 : k ≤ 5) {r : List Int} (h : r ∈ tupsL k n) : r ≠ [] ∧ (∀ x ∈ r, 1 ≤ x ∧ x ≤ n) ∧ r.length ≤ 5 := by
  unfold tupsL at h
  obtain ⟨a, ha, h⟩ := List.mem_flatMap.mp h
  obtain ⟨b, hb, h⟩ := List.mem_flatMap.mp h
  rw [mem_irange] at ha hb
  by_cases hl : lastL k a b ≤ n
  · rw [if_pos hl] at h
    rw [List.mem_singleton] at h
    subst h
    unfold rowL lastL at *
    rcases hk with rfl | hk
    · simp only [if_true] at *
      refine ⟨by simp, fun x hx => ?_, by simp⟩
      simp at hx
      omega
    · rw [if_neg (by omega)] at *
      refine ⟨fun z => ?_, fun x hx => ?_, ?_⟩
      · have := congrArg List.length z
        simp at this
        omega
      · obtain ⟨i, hi, rfl⟩ := List.mem_map.mp hx
        rw [mem_irange] at hi
        have h1 : i * (b - a) ≤ (k - 1) * (b - a) := Int.mul_le_mul_of_nonneg_right (by omega) (by omega)
        have h2 : 0 ≤ i * (b - a) := Int.mul_nonneg hi.1 (by omega)
        omega
      · simp; omega
  · rw [if_neg hl] at h; cases h
theorem tups_all {k n : Int} (hk : k = 0 ∨ 2 ≤ k) (hk5 : k ≤ 5) : (tupsL k n).all (fun r : List Int => !r.isEmpty) = true := by
  rw [List.all_eq_true]
  intro r hr
  have := (tups_in hk hk5 hr).1
  cases r with
  | nil => exact absurd rfl this
  | cons _ _ => rfl
theorem srt_ok {k n : Int} (hk : k = 0 ∨ 2 ≤ k) (hk5 : k ≤ 5) : srtO (fun r : List Int => !r.isEmpty) (eT eInt) (tupsL k n) = some (TS k n) := by
  unfold srtO
  rw [if_pos (tups_all hk hk5)]
  rfl
theorem p_tups {k n : Int} (hk : k = 0 ∨ 2 ≤ k) (hk5 : k ≤ 5) (h0 : 0 ≤ n) (h : n ≤ 30) : m__law_tuples k n = pureM (TS k n) := by rw [p_ltups hk hk5 h0 h, srt_ok hk hk5, optM_some]
theorem p_shape {k n : Int} (hk : k = 0 ∨ 2 ≤ k) (hk5 : k ≤ 5) (h0 : 0 ≤ n) (h : n ≤ 30) : m_shape_tuples k n = pureM (TS k n) := by
  unfold m_shape_tuples
  simp only [bp, bind_ret]
  rcases hk with rfl | hk
  · simp only [decide_true, if_true]
    rw [p_sums h0 h, bp, sums_eq, srt_ok (.inl rfl) hk5, optM_some, bp, optM_some]
  · simp only [show decide (k = 0) = false by simp; omega, Bool.false_eq_true, if_false]
    rw [p_rows hk hk5 h0 h, bp, rows_eq hk, srt_ok (.inr hk) hk5, optM_some, bp, optM_some]
def colAt (col : List Int) (x : Int) : Int := (atI col (x - 1)).getD 0
theorem col_at {col : List Int} {x : Int} (h1 : 1 ≤ x) (h2 : x ≤ col.length) : atI col (x - 1) = some (colAt col x) := by
  obtain ⟨y, e, _⟩ := atI_ok (xs := col) (i := x - 1) (by omega) (by omega)
  unfold colAt
  rw [e]; rfl
def oneC (col : List Int) (r : List Int) : Bool := r.all fun x => decide (colAt col x = colAt col (r.headD 0))
theorem at_head {r : List Int} (h : r ≠ []) : atI r 0 = some (r.headD 0) := by
  cases r with
  | nil => exact absurd rfl h
  | cons x xs => exact Pz.atI_nat (xs := x :: xs) (i := 0) (Nat.succ_pos _)
theorem head_in {r : List Int} {P : Int → Prop} (h : r ≠ []) (hr : ∀ x ∈ r, P x) : P (r.headD 0) := by
  cases r with
  | nil => exact absurd rfl h
  | cons x xs => exact hr x List.mem_cons_self
theorem p_one {col r : List Int} (h : r ≠ []) (hr : ∀ x ∈ r, 1 ≤ x ∧ x ≤ col.length) : m_is_of_one_color col r = pureM (oneC col r) := by
  unfold m_is_of_one_color
  simp only [bp, bind_ret, at_head h, optM_some]
  have h0 := head_in (P := fun x => 1 ≤ x ∧ x ≤ col.length) h hr
  rw [compM_map (fun x => decide (colAt col x = colAt col (r.headD 0))) fun x hx => ?_]
  · rw [bp]
    unfold oneC
    rw [List.all_map]
    rfl
  · rw [col_at (hr x hx).1 (hr x hx).2, optM_some, bp, col_at h0.1 h0.2, optM_some, bp]
theorem p_first {k n : Int} {col : List Int} (hk : k = 0 ∨ 2 ≤ k) (hk5 : k ≤ 5) (h0 : 0 ≤ n) (h : n ≤ 30) (hc : (col.length : Int) = n) : m_first_found k col = pureM ((TS k n).find? (oneC col)) := by
  unfold m_first_found
  simp only [bp, bind_ret]
  rw [hc, p_shape hk hk5 h0 h, bp, forO_find (oneC col) (fun r => some r) () fun r hr => ?_]
  · rw [bp]
    unfold caseO
    cases (TS k n).find? (oneC col) <;> rfl
  · have := tups_in hk hk5 (ts_mem.mp hr)
    rw [p_one this.1 (by rw [hc]; exact this.2.1), bp]
    cases oneC col r <;> rfl
theorem filt_flat {α : Type} (p : α → Bool) : ∀ xs : List α, (xs.flatMap fun r => if p r then [r] else []) = xs.filter p
  | [] => rfl
  | x :: xs => by
    rw [List.flatMap_cons, filt_flat p xs]
    cases h : p x <;> simp [h]
theorem app_if {α : Type} {c : Bool} {b : List α} {r : α} (hb : b.length + (if c then [r] else []).length ≤ 16777216) : (if c = true then appM b r else pureM b) = pureM (b ++ if c then [r] else []) := by
  cases c with
  | true =>
    simp only [if_true, List.length_singleton] at hb ⊢
    rw [appM_ok (by unfold sizeLine; omega)]
  | false => simp
theorem p_found {k n : Int} {col : List Int} (hk : k = 0 ∨ 2 ≤ k) (hk5 : k ≤ 5) (h0 : 0 ≤ n) (h : n ≤ 30) (hc : (col.length : Int) = n) : m__law_found k col = pureM ((TS k n).filter (oneC col)) := by
  unfold m__law_found
  simp only [bp, bind_ret]
  rw [smallM_pure (by simp), bp, hc, p_tups hk hk5 h0 h, bp, forM_acc (fun r => if oneC col r then [r] else []) 16777216 (fun r hr b hb => ?_) (nil_le (n := 1000) (by rw [filt_flat]; exact Nat.le_trans (List.length_filter_le _ _) (ts_len h0 h)))]
  · rw [List.nil_append, filt_flat]
  · have hin := tups_in hk hk5 (ts_mem.mp hr)
    have hh := head_in (P := fun x => 1 ≤ x ∧ x ≤ n) hin.1 hin.2.1
    simp only [at_head hin.1, optM_some, bp]
    rw [compM_pure (fun x => !decide (colAt col x = colAt col (r.headD 0))) (fun x => x) (fun x hx => ?_) fun x _ _ => rfl]
    · simp only [bp]
      rw [List.map_id']
      have e : decide (List.filter (fun x => !decide (colAt col x = colAt col (r.headD 0))) r = []) = oneC col r := by
        unfold oneC
        rw [Bool.eq_iff_iff, decide_eq_true_eq, List.filter_eq_nil_iff, List.all_eq_true]
        simp
      rw [smallM_pure (xs := []) (by simp)]
      simp only [bp]
      rw [e]
      exact app_if hb
    · have hx' := hin.2.1 x hx
      rw [col_at (by omega) (by omega), optM_some, bp, col_at (by omega) (by omega), optM_some, bp]
end Lw

namespace Lw
open PySem PySem.Spec PyProof.Rows L2 Pz
def isWN : PyData → Bool
  | .int _ => true
  | _ => false
theorem p_whole (d : PyData) : m_is_whole_number d = pureM (isWN d) := by
  unfold m_is_whole_number
  cases d <;> rfl
abbrev dForm : PyData := .tuple [.str "form"]
def formOk : PyData → Bool
  | .tuple (.str s :: rest) => if s = ("free" : Str) then rest.isEmpty else if s = ("found" : Str) then (match rest with | [.tuple ys] => ys.all isWN | _ => false) else false
  | _ => false
theorem eqD_nil {x : PyData} {r : List PyData} (hp : PyData.plain (.tuple (x :: r)) = true) (hd : PyData.depth (.tuple (x :: r)) ≤ 60) : eqD (.tuple (x :: r)) (eP eU ()) = some false := by
  unfold eqD
  rw [if_pos ⟨hp, rfl, hd⟩]
  simp [eP, eU, PyData.eqv, PyData.eqvAll]
theorem eqD_str (s t : Str) : eqD (.str s) (eStr t) = some (decide (s = t)) := by
  unfold eqD
  rw [if_pos ⟨rfl, rfl, by simp [PyData.depth]⟩]
  simp [eStr, PyData.eqv]
  exact Bool.beq_eq_decide_eq s t
theorem asTup_t (ds : List PyData) : asTup (.tuple ds) = some ds := rfl
theorem at0 {α : Type} (x : α) (r : List α) : atI (x :: r) 0 = some x := Pz.atI_nat (xs := x :: r) (i := 0) (Nat.succ_pos _)
theorem at1 {α : Type} (x y : α) (r : List α) : atI (x :: y :: r) 1 = some y := Pz.atI_nat (xs := x :: y :: r) (i := 1) (by simp)
theorem allWN (ys : List PyData) : compM (fun _ => pureM true) (fun x => m_is_whole_number x) ys = pureM (ys.map isWN) := compM_map isWN fun x _ => p_whole x
theorem p_form {v : PyData} (hp : v.plain = true) (hd : v.depth ≤ 60) : m_is_free_form v = pureM (formOk v) := by
  unfold m_is_free_form
  simp only [bp, bind_ret, optM_some, Pz.bind_assoc, eD]
  cases v with
  | tuple ds =>
    cases ds with
    | nil =>
      rw [show isTy "tuple" (.tuple []) = true from rfl, show eqD (.tuple []) (eP eU ()) = some true from rfl]
      simp only [Bool.not_true, Bool.false_eq_true, if_false, optM_some, bp, if_true]
      rfl
    | cons x r =>
      rw [show isTy "tuple" (.tuple (x :: r)) = true from rfl, eqD_nil hp hd]
      simp only [Bool.not_true, Bool.false_eq_true, if_false, optM_some, bp, if_true, asTup_t, at0]
      cases x with
      | str s =>
        rw [show isTy "str" (.str s) = true from rfl]
        simp only [Bool.not_true, Bool.false_eq_true, if_false, optM_some, bp, eqD_str, decide_eq_true_eq, Option.map_some]
        unfold formOk
        dsimp only
        by_cases h1 : s = ("free" : Str)
        · rw [if_pos h1, if_pos h1]
          cases r with
          | nil => rfl
          | cons y w =>
            have e : (decide (((PyData.str s :: y :: w).length : Int) = 1)) = false := by rw [decide_eq_false_iff_not]; simp only [List.length_cons]; omega
            rw [e]; rfl
        · rw [if_neg h1, if_neg h1]
          by_cases h2 : s = ("found" : Str)
          · simp only [h2, decide_true, Bool.not_true, Bool.false_eq_true, if_false, if_true]
            match r with
            | [] => simp [bp]
            | [y] =>
              simp only [at1, optM_some, bp, List.length_cons, List.length_nil]
              cases y with
              | tuple ys =>
                rw [show isTy "tuple" (.tuple ys) = true from rfl]
                simp only [asTup_t, optM_some, bp, allWN]
                simp [bp, List.all_map]
              | _ => rfl
            | y :: z :: w =>
              simp only [at1, optM_some, bp, List.length_cons]
              rw [show (!decide (((w.length + 1 + 1 + 1 : Nat) : Int) = 2)) = true by simp; omega]
              simp [bp]
          · simp [h2, bp]
      | _ => rfl
  | _ => rfl
/-! ### papers and faults -/
def paperD (k n : Int) (col : List Int) : PyData := match (TS k n).find? (oneC col) with
  | some r => .tuple [.str "found", eT eInt r]
  | none => .tuple [.str "free"]
theorem p_paper {k n : Int} {col : List Int} (hk : k = 0 ∨ 2 ≤ k) (hk5 : k ≤ 5) (h0 : 0 ≤ n) (h : n ≤ 30) (hc : (col.length : Int) = n) : m_free_paper k col = pureM (paperD k n col) := by
  unfold m_free_paper paperD
  simp only [bp, bind_ret]
  rw [p_first hk hk5 h0 h hc, bp]
  cases (TS k n).find? (oneC col) <;> rfl
def badC (col ys : List Int) (p : Int × Int × Unit) : Bool := !decide (colAt col p.2.1 = colAt col (ys.headD 0))
def colF (col ys : List Int) : Option Int := ((enumL ys).find? (badC col ys)).map (·.1)
theorem mem_enumF {α : Type} : ∀ (k : Nat) (xs : List α) (p : Int × α × Unit), p ∈ enumF k xs → p.2.1 ∈ xs
  | _, [], _, h => by simp [enumF] at h
  | k, x :: xs, p, h => by
    unfold enumF at h
    rcases List.mem_cons.mp h with rfl | h
    · exact List.mem_cons_self
    · exact List.mem_cons_of_mem _ (mem_enumF (k + 1) xs p h)
theorem p_fault {col ys : List Int} (h : ys ≠ []) (hr : ∀ x ∈ ys, 1 ≤ x ∧ x ≤ col.length) : m_color_fault col ys = pureM (colF col ys) := by
  unfold m_color_fault colF
  simp only [bp, bind_ret, at_head h, optM_some]
  have h0 := head_in (P := fun x => 1 ≤ x ∧ x ≤ (col.length : Int)) h hr
  rw [forO_find (badC col ys) (fun p => some p.1) () fun p hp => ?_]
  · rw [bp]
    unfold caseO
    cases (enumL ys).find? (badC col ys) <;> rfl
  · have hx := hr _ (mem_enumF 0 ys p hp)
    rw [col_at hx.1 hx.2, optM_some, bp, col_at h0.1 h0.2, optM_some, bp]
    show (if badC col ys p = true then _ else _) = _
    cases badC col ys p <;> rfl
/-- what is at fault in v -/
def faultD (k n : Int) (col : List Int) : PyData → PyData
  | .tuple (.str s :: rest) => if s = ("free" : Str) then (if rest.isEmpty then (match (TS k n).find? (oneC col) with | some r => .tuple [.str "found", eT eInt r] | none => .none) else dForm)
    else if s = ("found" : Str) then (match rest with
      | [.tuple ys] => if ys.all isWN then (match ys.mapM asInt with
        | some xs => if xs ∈ TS k n then (match colF col xs with | some i => .tuple [.str "colors", .int i] | none => .none) else .tuple [.str "shape"]
        | none => dForm) else dForm
      | _ => dForm) else dForm
  | _ => dForm
theorem wn_ints : ∀ {ys : List PyData}, ys.all isWN = true → ∃ xs : List Int, ys.mapM asInt = some xs ∧ ys = xs.map eInt
  | [], _ => ⟨[], rfl, rfl⟩
  | y :: ys, h => by
    rw [List.all_cons, Bool.and_eq_true] at h
    obtain ⟨xs, e1, e2⟩ := wn_ints h.2
    cases y with
    | int i =>
      refine ⟨i :: xs, ?_, by rw [e2]; rfl⟩
      rw [List.mapM_cons]
      show (some i).bind _ = _
      rw [Option.bind_some, e1]
      rfl
    | _ => simp [isWN] at h
theorem in_rows {n : Nat} (c : PyData) (xs : List Int) (rows : List (List Int)) (hc : c = eL (eT eInt) rows ∨ c = eT (eT eInt) rows) : inD (.tuple (xs.map eInt)) c = some (decide (xs ∈ rows)) := by
  have D : Dc 1 (eT eInt) := Dc.tup Dc.int
  have e : inD (eT eInt xs) c = some ((rows.map (eT eInt)).any fun z => PyData.eqv z (eT eInt xs)) := by
    rcases hc with rfl | rfl <;> exact if_pos ⟨D.plainAll rows, D.plain xs, Nat.le_trans (D.depth xs) (by decide)⟩
  rw [any_mem D] at e
  exact e.trans (congrArg some (decide_eq_decide.mpr Iff.rfl))
theorem paper_plain (k n : Int) (col : List Int) : (paperD k n col).plain = true ∧ (paperD k n col).depth ≤ 60 := by
  have D : Dc 1 (eT eInt) := Dc.tup Dc.int
  unfold paperD
  cases (TS k n).find? (oneC col) with
  | none => exact ⟨rfl, by simp [PyData.depth, PyData.depthAll]⟩
  | some r =>
    have h1 := D.plain r
    have h2 := D.depth r
    exact ⟨by simp [PyData.plain, PyData.plainAll, h1], by simp only [PyData.depth, PyData.depthAll]; omega⟩
theorem p_judge {k n : Int} {col : List Int} (hk : k = 0 ∨ 2 ≤ k) (hk5 : k ≤ 5) (h0 : 0 ≤ n) (h : n ≤ 30) (hc : (col.length : Int) = n) {v : PyData} (hp : v.plain = true) (hd : v.depth ≤ 60) : m_judge_free k col v = pureM (faultD k n col v) := by
  unfold m_judge_free
  simp only [bp, bind_ret, optM_some, Pz.bind_assoc, eD]
  rw [p_form hp hd, bp]
  by_cases hf : formOk v = true
  · simp only [hf, Bool.not_true, Bool.false_eq_true, if_false]
    match v, hf with
    | .tuple (.str s :: rest), hf =>
      unfold formOk at hf
      dsimp only at hf
      simp only [asTup_t, optM_some, bp, at0, eqD_str, decide_eq_true_eq]
      unfold faultD
      dsimp only
      by_cases h1 : s = ("free" : Str)
      · rw [if_pos h1] at hf
        rw [if_pos h1, if_pos h1, if_pos hf]
        cases rest with
        | cons _ _ => cases hf
        | nil =>
          subst h1
          rw [p_paper hk hk5 h0 h hc, bp]
          have pp := paper_plain k n col
          have e : eqD (paperD k n col) (.tuple [.str "free"]) = some (PyData.eqv (paperD k n col) (.tuple [.str "free"])) := if_pos ⟨pp.1, rfl, pp.2⟩
          rw [e, Option.map_some, optM_some, bp]
          unfold paperD
          cases (TS k n).find? (oneC col) <;> rfl
      · rw [if_neg h1] at hf
        rw [if_neg h1, if_neg h1]
        by_cases h2 : s = ("found" : Str)
        · rw [if_pos h2] at hf ⊢
          match rest, hf with
          | [.tuple ys], hf =>
            dsimp only at hf ⊢
            obtain ⟨xs, e1, e2⟩ := wn_ints hf
            simp only [at1, optM_some, bp, hf, if_true, e1]
            rw [hc, p_shape hk hk5 h0 h, bp, e2, in_rows (n := 0) _ xs (TS k n) (.inr rfl)]
            simp only [Option.map_some, optM_some, bp]
            by_cases hm : xs ∈ TS k n
            · simp only [hm, decide_true, Bool.not_true, Bool.false_eq_true, if_false, if_true]
              have hin := tups_in hk hk5 (ts_mem.mp hm)
              rw [asTup_t, optM_some, bp]
              rw [e2] at e1
              rw [e1, optM_some, bp, p_fault hin.1 (by rw [hc]; exact hin.2.1), bp]
              cases colF col xs <;> rfl
            · simp only [hm, decide_false, Bool.not_false, if_true, if_false]
              rfl
        · rw [if_neg h2] at hf; cases hf
  · have hff : formOk v = false := by cases q : formOk v; rfl; exact absurd q hf
    rw [hff]
    simp only [Bool.not_false, if_true]
    have : faultD k n col v = dForm := by
      unfold formOk at hff
      unfold faultD
      match v, hff with
      | .tuple (.str s :: rest), hff =>
        dsimp only at hff ⊢
        by_cases h1 : s = ("free" : Str)
        · rw [if_pos h1] at hff ⊢
          rw [hff]; rfl
        · rw [if_neg h1] at hff ⊢
          by_cases h2 : s = ("found" : Str)
          · rw [if_pos h2] at hff ⊢
            match rest, hff with
            | [.tuple ys], hff =>
              dsimp only at hff ⊢
              rw [hff]; rfl
            | [], _ => rfl
            | [.none], _ => rfl
            | [.bool _], _ => rfl
            | [.int _], _ => rfl
            | [.str _], _ => rfl
            | [.list _], _ => rfl
            | [.dict _], _ => rfl
            | y :: z :: w, _ => cases y <;> rfl
          · rw [if_neg h2]
      | .tuple [], _ => rfl
      | .tuple (.none :: _), _ => rfl
      | .tuple (.bool _ :: _), _ => rfl
      | .tuple (.int _ :: _), _ => rfl
      | .tuple (.list _ :: _), _ => rfl
      | .tuple (.tuple _ :: _), _ => rfl
      | .tuple (.dict _ :: _), _ => rfl
      | .none, _ => rfl
      | .bool _, _ => rfl
      | .int _, _ => rfl
      | .str _, _ => rfl
      | .list _, _ => rfl
      | .dict _, _ => rfl
    rw [this]
    rfl
end Lw

namespace Lw
open PySem PySem.Spec PyProof.Rows L2 Pz
structure HeadOk (x : PyData) (z : Str) : Prop where
  rep : reprO (.tuple [x]) = some z
  free : z = ("('free',)" : Str) ↔ x = .str "free"
  found : z = ("('found',)" : Str) ↔ x = .str "found"
theorem cut_1 {α : Type} (xs : List α) : cutL xs none (some 1) = xs.take 1 := by
  unfold cutL HT.sIx
  dsimp only
  rw [if_neg (by omega), List.drop_zero, Nat.sub_zero]
  cases xs with
  | nil => rfl
  | cons x r => rw [show min (1 : Int).toNat (x :: r).length = 1 by simp]
theorem enum_filter (col ys : List Int) : (((enumL ys).filter (badC col ys)).map fun p => p.1) = [] ↔ colF col ys = none := by
  unfold colF
  rw [List.map_eq_nil_iff, List.filter_eq_nil_iff, Option.map_eq_none_iff, List.find?_eq_none]
theorem enum_head (col ys : List Int) {i : Int} (h : colF col ys = some i) : atI (((enumL ys).filter (badC col ys)).map fun p => p.1) 0 = some i := by
  unfold colF at h
  have e : ∀ (l : List (Int × Int × Unit)), (l.find? (badC col ys)).map (·.1) = some i → atI ((l.filter (badC col ys)).map fun p => p.1) 0 = some i := by
    intro l
    induction l with
    | nil => intro q; cases q
    | cons x xs ih =>
      intro q
      cases hb : badC col ys x with
      | true =>
        rw [List.find?_cons_of_pos hb] at q
        rw [List.filter_cons_of_pos hb, List.map_cons, at0]
        exact q
      | false =>
        rw [List.find?_cons_of_neg (by rw [hb]; simp)] at q
        rw [List.filter_cons_of_neg (by rw [hb]; simp)]
        exact ih q
  exact e _ h
theorem eqv_ints (d : PyData) : True := trivial
theorem odd_ints (ys : List PyData) : compM (fun y => if (!isTy "int" y) = true then pureM true else pureM (isTy "bool" y)) (fun y => pureM y) ys = pureM (ys.filter fun y => !isWN y) := by
  rw [compM_pure (fun y => !isWN y) (fun y => y) (fun y _ => by cases y <;> rfl) fun _ _ _ => rfl, List.map_id']
theorem plain_filter {p : PyData → Bool} : ∀ {ys : List PyData}, PyData.plainAll ys = true → PyData.plainAll (ys.filter p) = true
  | [], _ => rfl
  | y :: ys, h => by
    simp only [PyData.plainAll, Bool.and_eq_true] at h
    cases hy : p y with
    | true => rw [List.filter_cons_of_pos hy]; simp only [PyData.plainAll, Bool.and_eq_true]; exact ⟨h.1, plain_filter h.2⟩
    | false => rw [List.filter_cons_of_neg (by rw [hy]; simp)]; exact plain_filter h.2
theorem depth_filter {p : PyData → Bool} : ∀ {ys : List PyData}, PyData.depthAll (ys.filter p) ≤ PyData.depthAll ys
  | [] => Nat.le_refl _
  | y :: ys => by
    have ih := depth_filter (p := p) (ys := ys)
    cases hy : p y with
    | true => rw [List.filter_cons_of_pos hy]; simp only [PyData.depthAll]; omega
    | false => rw [List.filter_cons_of_neg (by rw [hy]; simp)]; simp only [PyData.depthAll]; omega
theorem enumF_map {α β : Type} (f : α → β) : ∀ (k : Nat) (xs : List α), enumF k (xs.map f) = (enumF k xs).map fun p => (p.1, f p.2.1, ())
  | _, [] => rfl
  | k, x :: xs => by rw [List.map_cons, enumF, enumF, List.map_cons, enumF_map f (k + 1) xs]
theorem enum_map {α β : Type} (f : α → β) (xs : List α) : enumL (xs.map f) = (enumL xs).map fun p => (p.1, f p.2.1, ()) := enumF_map f 0 xs
theorem comp_map {α β γ : Type} (c : β → M Bool) (f : β → M γ) (g : α → β) : ∀ xs : List α, compM c f (xs.map g) = compM (fun x => c (g x)) (fun x => f (g x)) xs
  | [] => rfl
  | x :: xs => by rw [List.map_cons, compM, compM, comp_map c f g xs]
theorem form_eq : eP (eC eStr eU) (("form" : Str), ()) = dForm := rfl
theorem found_head {k n : Int} {col : List Int} : ((TS k n).filter (oneC col) = [] ↔ (TS k n).find? (oneC col) = none) ∧ ∀ r, (TS k n).find? (oneC col) = some r → atI ((TS k n).filter (oneC col)) 0 = some r := by
  have e : ∀ (l : List (List Int)) r, l.find? (oneC col) = some r → atI (l.filter (oneC col)) 0 = some r := by
    intro l r
    induction l with
    | nil => intro q; cases q
    | cons x xs ih =>
      intro q
      cases hb : oneC col x with
      | true =>
        rw [List.find?_cons_of_pos hb] at q
        rw [List.filter_cons_of_pos hb, at0]
        exact q
      | false =>
        rw [List.find?_cons_of_neg (by rw [hb]; simp)] at q
        rw [List.filter_cons_of_neg (by rw [hb]; simp)]
        exact ih q
  refine ⟨by rw [List.filter_eq_nil_iff, List.find?_eq_none], fun r h => e _ r h⟩
theorem p_lfault {k n : Int} {col : List Int} (hk : k = 0 ∨ 2 ≤ k) (hk5 : k ≤ 5) (h0 : 0 ≤ n) (h : n ≤ 30) (hc : (col.length : Int) = n) {v : PyData} (hp : v.plain = true) (hd : v.depth ≤ 60) (hh : ∀ x r, v = .tuple (x :: r) → ∃ z, HeadOk x z) : m__law_fault k col v = pureM (faultD k n col v) := by
  unfold m__law_fault
  simp only [bp, bind_ret, optM_some, Pz.bind_assoc, eD]
  cases v with
  | tuple ds =>
    rw [show isTy "tuple" (.tuple ds) = true from rfl]
    simp only [Bool.not_true, Bool.false_eq_true, if_false, optM_some, bp, asTup_t, cut_1, Pz.bind_assoc]
    cases ds with
    | nil =>
      rw [show reprO (eT eD (List.take 1 [])) = some (("()" : String) : Str) by decide +kernel, optM_some, bp]
      rw [show (!decide ((("()" : String) : Str) ∈ [(("('free',)" : String) : Str), (("('found',)" : String) : Str)])) = true by decide +kernel]
      rfl
    | cons x r =>
      obtain ⟨z, hz⟩ := hh x r rfl
      rw [show reprO (eT eD (List.take 1 (x :: r))) = some z from hz.rep]
      simp only [optM_some, bp, at0]
      have hmem : (z ∈ [(("('free',)" : String) : Str), (("('found',)" : String) : Str)]) ↔ (x = .str "free" ∨ x = .str "found") := by
        rw [List.mem_cons, List.mem_singleton, hz.free, hz.found]
      by_cases hin : x = .str "free" ∨ x = .str "found"
      · rw [show (!decide (z ∈ [(("('free',)" : String) : Str), (("('found',)" : String) : Str)])) = false by simp only [Bool.not_eq_false', decide_eq_true_eq]; exact hmem.mpr hin]
        simp only [Bool.false_eq_true, if_false]
        rcases hin with rfl | rfl
        · rw [eqD_str, optM_some, bp, decide_eq_true rfl]
          simp only [if_true]
          rw [p_found hk hk5 h0 h hc, bp]
          unfold faultD
          dsimp only
          rw [if_pos (show ((("free" : String) : Str) = (("free" : String) : Str)) from rfl)]
          cases r with
          | nil =>
            simp only [List.length_singleton, List.isEmpty_nil, if_true]
            rw [smallM_pure (xs := []) (by simp)]
            simp only [bp]
            have fh := found_head (k := k) (n := n) (col := col)
            cases hf : (TS k n).find? (oneC col) with
            | none =>
              rw [fh.1.mpr hf]
              rfl
            | some r =>
              have hne : ¬ ((TS k n).filter (oneC col) = []) := fun z => by rw [fh.1.mp z] at hf; cases hf
              rw [fh.2 r hf]
              simp [hne, bp]
              rfl
          | cons y w =>
            have e : (!decide (((PyData.str "free" :: y :: w).length : Int) = 1)) = true := by simp only [Bool.not_eq_true', decide_eq_false_iff_not, List.length_cons]; omega
            rw [e]; rfl
        · rw [eqD_str, optM_some, bp, show decide ((("found" : String) : Str) = ("free" : String)) = false by decide +kernel]
          simp only [Bool.false_eq_true, if_false]
          unfold faultD
          dsimp only
          rw [if_neg (show ¬ ((("found" : String) : Str) = (("free" : String) : Str)) by decide +kernel), if_pos (show ((("found" : String) : Str) = (("found" : String) : Str)) from rfl)]
          match r with
          | [] => rfl
          | [y] =>
            simp only [at1, optM_some, bp]
            cases y with
            | tuple ys =>
              rw [show isTy "tuple" (.tuple ys) = true from rfl]
              simp only [List.length_cons, List.length_nil, asTup_t, optM_some, bp]
              simp only [show (!decide (((0 + 1 + 1 : Nat) : Int) = 2)) = false by decide, Bool.false_eq_true, if_false, Bool.not_true, bp, odd_ints]
              rw [smallM_pure (xs := []) (by simp)]
              simp only [bp]
              have hpl : PyData.plainAll ys = true := by simp only [PyData.plain, PyData.plainAll, Bool.and_eq_true] at hp; exact hp.2.1
              have hdl : PyData.depthAll ys ≤ 58 := by simp only [PyData.depth, PyData.depthAll] at hd; omega
              have e1 : eqD (eL eD (ys.filter fun y => !isWN y)) (eL eD []) = some (ys.all isWN) := by
                have d1 := depth_filter (p := fun y => !isWN y) (ys := ys)
                have e0 : eqD (eL eD (ys.filter fun y => !isWN y)) (eL eD []) = some (PyData.eqv (eL eD (ys.filter fun y => !isWN y)) (eL eD [])) := if_pos ⟨by simp only [eL, PyData.plain, map_eD]; exact plain_filter hpl, rfl, by simp only [eL, PyData.depth, map_eD]; omega⟩
                rw [e0]
                congr 1
                cases hq : ys.all isWN with
                | true =>
                  have : ys.filter (fun y => !isWN y) = [] := by rw [List.filter_eq_nil_iff]; intro a ha; have := List.all_eq_true.mp hq a ha; simp [this]
                  rw [this]; rfl
                | false =>
                  have : ys.filter (fun y => !isWN y) ≠ [] := fun z => by
                    rw [List.filter_eq_nil_iff] at z
                    have : ys.all isWN = true := List.all_eq_true.mpr fun a ha => by have := z a ha; simpa using this
                    rw [this] at hq; cases hq
                  cases hf : ys.filter (fun y => !isWN y) with
                  | nil => exact absurd hf this
                  | cons a l => simp [eL, PyData.eqv, PyData.eqvAll]
              rw [e1, Option.map_some, optM_some, bp]
              cases hw : ys.all isWN with
              | false => rfl
              | true =>
                simp only [Bool.not_true, Bool.false_eq_true, if_false, if_true]
                obtain ⟨xs, e2, e3⟩ := wn_ints hw
                rw [hc, p_tups hk hk5 h0 h, bp, e2, e3, in_rows (n := 0) _ xs (TS k n) (.inl rfl), Option.map_some, optM_some, bp]
                dsimp only
                by_cases hm : xs ∈ TS k n
                · simp only [hm, decide_true, Bool.not_true, Bool.false_eq_true, if_false, if_true]
                  have hxs := tups_in hk hk5 (ts_mem.mp hm)
                  have hh := head_in (P := fun x => 1 ≤ x ∧ x ≤ n) hxs.1 hxs.2.1
                  have hat : atI (List.map eInt xs) 0 = some (eInt (xs.headD 0)) := by
                    cases xs with
                    | nil => exact absurd rfl hxs.1
                    | cons a l => exact at0 _ _
                  rw [enum_map, comp_map]
                  rw [compM_pure (badC col xs) (fun p => p.1) (fun p hp => ?_) fun _ _ _ => rfl]
                  · rw [bp, smallM_pure (xs := []) (by simp), bp]
                    cases hcf : colF col xs with
                    | none =>
                      rw [(enum_filter col xs).mpr hcf]
                      rfl
                    | some i =>
                      have hne : ¬ ((((enumL xs).filter (badC col xs)).map fun p => p.1) = []) := fun z => by rw [(enum_filter col xs).mp z] at hcf; cases hcf
                      rw [show (!decide ((((enumL xs).filter (badC col xs)).map fun p => p.1) = [])) = true by simp only [Bool.not_eq_true', decide_eq_false_iff_not]; exact hne]
                      rw [enum_head col xs hcf]
                      rfl
                  · have hx := hxs.2.1 _ (mem_enumF 0 xs p hp)
                    show Pz.bindM (optM (asInt (eInt p.2.1))) _ = _
                    rw [show asInt (eInt p.2.1) = some p.2.1 from rfl, optM_some, bp, col_at hx.1 (by omega), optM_some, bp, hat, optM_some, bp, show asInt (eInt (xs.headD 0)) = some (xs.headD 0) from rfl, optM_some, bp, col_at hh.1 (by omega), optM_some, bp]
                    rfl
                · simp only [hm, decide_false, Bool.not_false, if_true, if_false]
                  rfl
            | _ => rfl
          | y :: z :: w =>
            have e : (!decide (((PyData.str "found" :: y :: z :: w).length : Int) = 2)) = true := by simp only [Bool.not_eq_true', decide_eq_false_iff_not, List.length_cons]; omega
            rw [e]
            simp only [if_true, bp]
            cases y <;> rfl
      · rw [show (!decide (z ∈ [(("('free',)" : String) : Str), (("('found',)" : String) : Str)])) = true by simp only [Bool.not_eq_true', decide_eq_false_iff_not]; exact fun q => hin (hmem.mp q)]
        simp only [if_true]
        have : faultD k n col (.tuple (x :: r)) = dForm := by
          unfold faultD
          cases x with
          | str s =>
            dsimp only
            rw [if_neg (fun q => hin (.inl (by rw [q]))), if_neg (fun q => hin (.inr (by rw [q])))]
          | _ => rfl
        rw [this]; rfl
  | _ => rfl
end Lw

namespace Lw
open PySem PySem.Spec PyProof.Rows L2 Pz
structure Gd (v : PyData) : Prop where
  sh : Sh 10 5000 v
  plain : v.plain = true
  head : ∀ x r, v = .tuple (x :: r) → ∃ z, HeadOk x z
theorem hd_str {s z : Str} (h : reprO (.tuple [.str s]) = some z) (h1 : decide (z = ("('free',)" : Str)) = decide (s = ("free" : Str))) (h2 : decide (z = ("('found',)" : Str)) = decide (s = ("found" : Str))) : HeadOk (.str s) z :=
  ⟨h, (decide_eq_decide.mp h1).trans ⟨fun e => by rw [e], fun e => by cases e; rfl⟩, (decide_eq_decide.mp h2).trans ⟨fun e => by rw [e], fun e => by cases e; rfl⟩⟩
theorem hd_free : HeadOk (.str "free") "('free',)" := hd_str (by decide +kernel) (by decide +kernel) (by decide +kernel)
theorem hd_found : HeadOk (.str "found") "('found',)" := hd_str (by decide +kernel) (by decide +kernel) (by decide +kernel)
theorem hd_Free : HeadOk (.str "Free") "('Free',)" := hd_str (by decide +kernel) (by decide +kernel) (by decide +kernel)
theorem hd_any {x : PyData} {z : Str} (h : reprO (.tuple [x]) = some z) (h1 : z ≠ ("('free',)" : Str)) (h2 : z ≠ ("('found',)" : Str)) (h3 : ∀ s, x ≠ .str s) : HeadOk x z := ⟨h, ⟨fun q => absurd q h1, fun q => absurd q (h3 _)⟩, ⟨fun q => absurd q h2, fun q => absurd q (h3 _)⟩⟩
structure OddOk (d : PyData) : Prop where
  sh : Sh 5 1000 d
  plain : d.plain = true
  head : ∃ z, HeadOk d z
structure RowOk (r : List Int) : Prop where
  few : r.length ≤ 5
  small : ∀ x ∈ r, x.natAbs < 10 ^ 12
theorem RowOk.sh {r : List Int} (h : RowOk r) : Sh 1 (5 * 41) (eT eInt r) := Sh.tup 5 h.few fun x hx => Sh.int (h.small x hx)
theorem RowOk.shL {r : List Int} (h : RowOk r) : Sh 1 (5 * 41) (eL eInt r) := Sh.lst 5 h.few fun x hx => Sh.int (h.small x hx)
theorem RowOk.plain (r : List Int) : (eT eInt r).plain = true := (Dc.tup (n := 0) Dc.int).plain r
theorem RowOk.plainL (r : List Int) : (eL eInt r).plain = true := (Dc.lst (n := 0) Dc.int).plain r
theorem sh_str {s : Str} (h : s.cps.size ≤ 50) (h2 : (s.cps.toList.all fun c => decide (c < 16 ^ 8)) = true) : Sh 0 50 (.str s) := ⟨rfl, rfl, by simp [PyData.depth], by simpa [PyData.leavesShort] using h2, by simpa [PyData.weight] using h⟩
theorem sh_free : Sh 0 50 (.str "free") := sh_str (by decide +kernel) (by decide +kernel)
theorem sh_found : Sh 0 50 (.str "found") := sh_str (by decide +kernel) (by decide +kernel)
theorem sh_Free : Sh 0 50 (.str "Free") := sh_str (by decide +kernel) (by decide +kernel)
/-- tuples of few parts -/
theorem sh_nil : Sh 1 0 (.tuple []) := ⟨rfl, rfl, by simp [PyData.depth, PyData.depthAll], rfl, by simp [PyData.weight, PyData.weightAll]⟩
theorem sh_cons {dp w1 w2 : Nat} {d : PyData} {r : List PyData} (h : Sh dp w1 d) (k : Sh (dp + 1) w2 (.tuple r)) : Sh (dp + 1) (w1 + 1 + w2) (.tuple (d :: r)) := by
  obtain ⟨a1, a2, a3, a4, a5⟩ := h
  obtain ⟨b1, b2, b3, b4, b5⟩ := k
  simp only [PyData.showable, PyData.hasDict, PyData.depth, PyData.leavesShort, PyData.weight] at b1 b2 b3 b4 b5
  refine ⟨by simp [PyData.showable, PyData.showableAll, a1, b1], by simp [PyData.hasDict, PyData.hasDictAll, a2, b2], ?_, by simp [PyData.leavesShort, PyData.leavesShortAll, a4, b4], ?_⟩
  · simp only [PyData.depth, PyData.depthAll] at b3 ⊢; omega
  · simp only [PyData.weight, PyData.weightAll] at b5 ⊢; omega
theorem sh_lift {dp w : Nat} {d : PyData} (h : Sh dp w d) (k : dp ≤ 8 := by decide) : Sh 8 w d := h.mono k (Nat.le_refl _)
theorem pl_tup {ds : List PyData} (h : PyData.plainAll ds = true) : PyData.plain (.tuple ds) = true := h
theorem Gd.one {x : PyData} {w : Nat} {z : Str} (hz : HeadOk x z) (hs : Sh 8 w x) (hp : x.plain = true) (hw : w + 1 ≤ 5000 := by decide) : Gd (.tuple [x]) :=
  ⟨(sh_cons hs (sh_nil.mono (by decide) (Nat.le_refl 0))).mono (by decide) (by omega), by simp [PyData.plain, PyData.plainAll, hp], fun a b e => by cases e; exact ⟨z, hz⟩⟩
theorem Gd.two {x y : PyData} {w1 w2 : Nat} {z : Str} (hz : HeadOk x z) (hs : Sh 8 w1 x) (hp : x.plain = true) (hs2 : Sh 8 w2 y) (hp2 : y.plain = true) (hw : w1 + 1 + (w2 + 1) ≤ 5000 := by decide) : Gd (.tuple [x, y]) :=
  ⟨(sh_cons hs (sh_cons hs2 (sh_nil.mono (by decide) (Nat.le_refl 0)))).mono (by decide) (by omega), by simp [PyData.plain, PyData.plainAll, hp, hp2], fun a b e => by cases e; exact ⟨z, hz⟩⟩
theorem Gd.three {x y u : PyData} {w1 w2 w3 : Nat} {z : Str} (hz : HeadOk x z) (hs : Sh 8 w1 x) (hp : x.plain = true) (hs2 : Sh 8 w2 y) (hp2 : y.plain = true) (hs3 : Sh 8 w3 u) (hp3 : u.plain = true) (hw : w1 + 1 + (w2 + 1 + (w3 + 1)) ≤ 5000 := by decide) : Gd (.tuple [x, y, u]) :=
  ⟨(sh_cons hs (sh_cons hs2 (sh_cons hs3 (sh_nil.mono (by decide) (Nat.le_refl 0))))).mono (by decide) (by omega), by simp [PyData.plain, PyData.plainAll, hp, hp2, hp3], fun a b e => by cases e; exact ⟨z, hz⟩⟩
theorem Gd.flat {v : PyData} (hs : Sh 10 5000 v) (hp : v.plain = true) (hn : ∀ ds, v ≠ .tuple ds) : Gd v := ⟨hs, hp, fun x r e => absurd e (hn _)⟩
theorem odds : ∀ d ∈ ([eNon (), eBool true, eInt 0, eStr "0", eP (eC eBool (eC eInt (eC eInt eU))) (true, 1, 2, ()), eL eInt [1, 1, 2], eP (eC eInt (eC eInt (eC eInt eU))) (0, 1, 1, ()), eP (eC eInt (eC eInt eU)) (-1, 1, ()),
    eP (eC eInt (eC eInt (eC eInt eU))) (100000000000000000000, 1, 1, ()), eP (eC eStr eU) ("1", ())] : List PyData), OddOk d := by
  intro d hd
  simp only [List.mem_cons, List.not_mem_nil, or_false] at hd
  have i1 : ∀ i : Int, i.natAbs < 10 ^ 30 → Sh 0 100 (.int i) := fun i h => Sh.big h
  rcases hd with rfl | rfl | rfl | rfl | rfl | rfl | rfl | rfl | rfl | rfl
  · exact ⟨Sh.non.mono (by decide) (by decide), rfl, "(None,)", hd_any (by decide +kernel) (by decide +kernel) (by decide +kernel) (fun s => by simp [eNon])⟩
  · exact ⟨Sh.bool.mono (by decide) (by decide), rfl, "(True,)", hd_any (by decide +kernel) (by decide +kernel) (by decide +kernel) (fun s => by simp [eBool])⟩
  · exact ⟨(i1 0 (by decide)).mono (by decide) (by decide), rfl, "(0,)", hd_any (by decide +kernel) (by decide +kernel) (by decide +kernel) (fun s => by simp [eInt])⟩
  · exact ⟨(sh_str (s := "0") (by decide +kernel) (by decide +kernel)).mono (by decide) (by decide), rfl, "('0',)", hd_str (by decide +kernel) (by decide +kernel) (by decide +kernel)⟩
  · exact ⟨(sh_cons Sh.bool (sh_cons (i1 1 (by decide)) (sh_cons (i1 2 (by decide)) sh_nil))).mono (by decide) (by decide), rfl, "((True, 1, 2),)", hd_any (by decide +kernel) (by decide +kernel) (by decide +kernel) (fun s => by simp [eP])⟩
  · exact ⟨(Sh.lst 3 (by decide) (fun x hx => Sh.int (by simp at hx; omega))).mono (by decide) (by decide), rfl, "([1, 1, 2],)", hd_any (by decide +kernel) (by decide +kernel) (by decide +kernel) (fun s => by simp [eL])⟩
  · exact ⟨(sh_cons (i1 0 (by decide)) (sh_cons (i1 1 (by decide)) (sh_cons (i1 1 (by decide)) sh_nil))).mono (by decide) (by decide), rfl, "((0, 1, 1),)", hd_any (by decide +kernel) (by decide +kernel) (by decide +kernel) (fun s => by simp [eP])⟩
  · exact ⟨(sh_cons (i1 (-1) (by decide)) (sh_cons (i1 1 (by decide)) sh_nil)).mono (by decide) (by decide), rfl, "((-1, 1),)", hd_any (by decide +kernel) (by decide +kernel) (by decide +kernel) (fun s => by simp [eP])⟩
  · exact ⟨(sh_cons (i1 100000000000000000000 (by decide)) (sh_cons (i1 1 (by decide)) (sh_cons (i1 1 (by decide)) sh_nil))).mono (by decide) (by decide), rfl, "((100000000000000000000, 1, 1),)", hd_any (by decide +kernel) (by decide +kernel) (by decide +kernel) (fun s => by simp [eP])⟩
  · exact ⟨(sh_cons (sh_str (s := "1") (by decide +kernel) (by decide +kernel)) sh_nil).mono (by decide) (by decide), rfl, "(('1',),)", hd_any (by decide +kernel) (by decide +kernel) (by decide +kernel) (fun s => by simp [eP])⟩
theorem sh_1 {x : PyData} {w : Nat} (h : Sh 3 w x) : Sh 8 (w + 1) (.tuple [x]) := (sh_cons h (sh_nil.mono (by decide) (Nat.le_refl 0))).mono (by decide) (by omega)
theorem sh_2 {x y : PyData} {w1 w2 : Nat} (h : Sh 3 w1 x) (h2 : Sh 3 w2 y) : Sh 8 (w1 + 1 + (w2 + 1)) (.tuple [x, y]) := (sh_cons h (sh_cons h2 (sh_nil.mono (by decide) (Nat.le_refl 0)))).mono (by decide) (by omega)
theorem sh3 {dp w : Nat} {d : PyData} (h : Sh dp w d) (k : dp ≤ 3 := by decide) : Sh 3 w d := h.mono k (Nat.le_refl _)
theorem paper_gd {k n : Int} {col : List Int} (hk : k = 0 ∨ 2 ≤ k) (hk5 : k ≤ 5) (h : n ≤ 30) : ∃ x r, paperD k n col = .tuple (x :: r) ∧ (∃ z, HeadOk x z) ∧ Sh 8 300 (.tuple (x :: r)) ∧ (x = .str "free" ∨ x = .str "found") ∧ PyData.plainAll (x :: r) = true ∧ r.length ≤ 1 := by
  unfold paperD
  cases hf : (TS k n).find? (oneC col) with
  | none => exact ⟨_, _, rfl, ⟨_, hd_free⟩, (sh_1 (sh3 sh_free)).mono (by decide) (by decide), .inl rfl, rfl, by decide⟩
  | some r =>
    have hin := tups_in hk hk5 (ts_mem.mp (List.mem_of_find?_eq_some hf))
    have hr : RowOk r := ⟨hin.2.2, fun x hx => by have := hin.2.1 x hx; omega⟩
    exact ⟨_, _, rfl, ⟨_, hd_found⟩, (sh_2 (sh3 sh_found) (sh3 hr.sh)).mono (by decide) (by decide), .inr rfl, by simp [PyData.plainAll, RowOk.plain, PyData.plain], Nat.le_refl 1⟩
theorem enum_small {α : Type} {ys : List α} {p : Int × α × Unit} (h : p ∈ enumL ys) : 0 ≤ p.1 ∧ p.1 < ys.length := by
  obtain ⟨i, hi⟩ := List.mem_iff_getElem?.mp h
  rw [enumL_get] at hi
  obtain ⟨x, hx, e⟩ := Option.map_eq_some_iff.mp hi
  have := (List.getElem?_eq_some_iff.mp hx).1
  subst e
  constructor
  · exact Int.natCast_nonneg i
  · show (i : Int) < _; omega
theorem fault_sh {k n : Int} {col : List Int} (hk : k = 0 ∨ 2 ≤ k) (hk5 : k ≤ 5) (h : n ≤ 30) (v : PyData) : ∃ z, reprO (faultD k n col v) = some z := by
  have fin : ∀ {d : PyData} {w : Nat}, Sh 8 w d → w ≤ 1000 → ∃ z, reprO d = some z := fun hs hw => ⟨_, reprO_ok (wt := 1000) (hs.mono (by decide) hw)⟩
  have one : ∀ s : Str, s.cps.size ≤ 50 → (s.cps.toList.all fun c => decide (c < 16 ^ 8)) = true → ∃ z, reprO (.tuple [.str s]) = some z := fun s h1 h2 => fin (sh_1 (sh3 (sh_str h1 h2))) (by decide)
  have form := one "form" (by decide +kernel) (by decide +kernel)
  have shape := one "shape" (by decide +kernel) (by decide +kernel)
  have non : ∃ z, reprO PyData.none = some z := fin (Sh.non.mono (by decide) (Nat.le_refl 0)) (by decide)
  unfold faultD
  split
  · split
    · split
      · cases hf : (TS k n).find? (oneC col) with
        | none => exact non
        | some r =>
          have hin := tups_in hk hk5 (ts_mem.mp (List.mem_of_find?_eq_some hf))
          have hr : RowOk r := ⟨hin.2.2, fun x hx => by have := hin.2.1 x hx; omega⟩
          exact fin (sh_2 (sh3 sh_found) (sh3 hr.sh)) (by decide)
      · exact form
    · split
      · split
        · split
          · split
            · split
              · cases hc : colF col _ with
                | none => exact non
                | some i =>
                  rename_i xs _ hm
                  unfold colF at hc
                  obtain ⟨p, hp, e⟩ := Option.map_eq_some_iff.mp hc
                  have := enum_small (List.mem_of_find?_eq_some hp)
                  have hin := tups_in hk hk5 (ts_mem.mp hm)
                  have hi : i.natAbs < 10 ^ 12 := by have := hin.2.2; omega
                  exact fin (sh_2 (sh3 (sh_str (s := "colors") (by decide +kernel) (by decide +kernel))) (sh3 (Sh.int hi))) (by decide)
              · exact shape
            · exact form
          · exact form
        · exact form
      · exact form
  · exact form
def AllG (n : Nat) (l : List PyData) : Prop := l.length ≤ n ∧ ∀ v ∈ l, Gd v
theorem sat_cat {a b : Nat} {xs ys : List PyData} (h1 : AllG a xs) (h2 : AllG b ys) (hn : a + b ≤ 1000 := by decide) : Sat (optM (catO xs ys)) (AllG (a + b)) := by
  rw [catO_ok (by have := h1.1; have := h2.1; unfold sizeLine; omega), optM_some]
  refine .pure ⟨by have := h1.1; have := h2.1; rw [List.length_append]; omega, fun v hv => ?_⟩
  rcases List.mem_append.mp hv with hv | hv
  · exact h1.2 v hv
  · exact h2.2 v hv
end Lw

namespace Lw
open PySem PySem.Spec PyProof.Rows L2 Pz
theorem sm {α : Type} {xs : List α} (h : xs.length ≤ 100) : smallM (pureM xs) = pureM xs := smallM_pure (by unfold sizeLine; omega)
theorem col_shown {n : Int} {col : List Int} (h : n ≤ 30) (hl : (col.length : Int) = n) (hc : ∀ x ∈ col, 0 ≤ x ∧ x ≤ 10) : reprO (eT eInt col) = some (eT eInt col).shown :=
  reprO_ok (wt := 30 * 41) ((Sh.tup 30 (by omega) fun x hx => Sh.int (by have := hc x hx; omega)).mono (by decide) (by decide))
theorem cut_to {α : Type} (xs : List α) {n : Int} (h : 0 ≤ n) : cutL xs none (some n) = xs.take n.toNat := by
  unfold cutL HT.sIx
  dsimp only
  rw [if_neg (by omega), List.drop_zero, Nat.sub_zero, ← List.take_take, List.take_length]
theorem gd_repr {v : PyData} (h : Gd v) : ∃ z, reprO v = some z := ⟨_, reprO_ok (wt := 5000) (h.sh.mono (by decide) (Nat.le_refl _))⟩
/-- no fault: the sort is the paper's -/
theorem fault_none {k n : Int} {col : List Int} {v : PyData} (h : faultD k n col v = .none) : ∃ x r, v = .tuple (x :: r) ∧ ∃ r2, paperD k n col = .tuple (x :: r2) := by
  unfold faultD at h
  unfold paperD
  split at h
  · split at h
    · rename_i s rest hs
      subst hs
      split at h
      · cases hf : (TS k n).find? (oneC col) with
        | none => exact ⟨_, _, rfl, _, rfl⟩
        | some r => rw [hf] at h; cases h
      · cases h
    · split at h
      · rename_i s rest _ hs
        subst hs
        split at h
        · split at h
          · split at h
            · split at h
              · rename_i xs _ hm
                cases hc : colF col xs with
                | some i => rw [hc] at h; cases h
                | none =>
                  have hone : oneC col xs = true := by
                    unfold oneC
                    rw [List.all_eq_true]
                    intro x hx
                    unfold colF at hc
                    rw [Option.map_eq_none_iff, List.find?_eq_none] at hc
                    obtain ⟨i, hi⟩ := List.mem_iff_getElem?.mp hx
                    have hp : ((i : Int), x, ()) ∈ enumL xs := List.mem_iff_getElem?.mpr ⟨i, by rw [enumL_get, hi]; rfl⟩
                    have := hc _ hp
                    unfold badC at this
                    simpa using this
                  cases hf : (TS k n).find? (oneC col) with
                  | none => rw [List.find?_eq_none] at hf; exact absurd hone (by simpa using hf xs hm)
                  | some r => exact ⟨_, _, rfl, _, rfl⟩
              · cases h
            · cases h
          · cases h
        · cases h
      · cases h
  · cases h
theorem sh_tl {dp w : Nat} {ds : List PyData} (h : Sh dp w (.tuple ds)) : Sh dp w (.list ds) := by
  obtain ⟨a1, a2, a3, a4, a5⟩ := h
  simp only [PyData.showable, PyData.hasDict, PyData.depth, PyData.leavesShort, PyData.weight] at a1 a2 a3 a4 a5
  exact ⟨by simpa [PyData.showable] using a1, by simpa [PyData.hasDict] using a2, by simpa [PyData.depth] using a3, by simpa [PyData.leavesShort] using a4, by simpa [PyData.weight] using a5⟩
theorem _root_.Nat.le.trans_100 {m n : Nat} (h : m ≤ n) (k : n ≤ 100 := by decide) : m ≤ 100 := Nat.le_trans h k
theorem all_nil : AllG 0 [] := ⟨Nat.le_refl 0, by simp⟩
theorem all_cons {n : Nat} {v : PyData} {l : List PyData} (h : Gd v) (k : AllG n l) : AllG (n + 1) (v :: l) := ⟨by have := k.1; simp; exact this, fun u hu => by
  rcases List.mem_cons.mp hu with rfl | hu
  · exact h
  · exact k.2 u hu⟩
theorem told3 {P : PyData} (h : P = .tuple [.str "free"] ∨ ∃ r, RowOk r ∧ P = .tuple [.str "found", eT eInt r]) : ∃ ts, asTup P = some ts ∧ ts.length ≤ 2 ∧ Gd P ∧ Gd (eL eD ts) ∧ Gd (eT eD (ts ++ [eInt 0])) := by
  have z0 : Sh 8 40 (eInt 0) := sh_lift (Sh.int (by decide))
  rcases h with rfl | ⟨r, hr, rfl⟩
  · refine ⟨_, rfl, by decide, Gd.one hd_free (sh_lift sh_free) rfl, .flat ?_ rfl (fun ds => by simp [eL]), ?_⟩
    · exact sh_tl ((sh_1 (sh3 sh_free)).mono (by decide) (by decide))
    · exact Gd.two hd_free (sh_lift sh_free) rfl z0 rfl
  · refine ⟨_, rfl, Nat.le_refl 2, Gd.two hd_found (sh_lift sh_found) rfl (sh_lift hr.sh) (RowOk.plain r), .flat ?_ ?_ (fun ds => by simp [eL]), ?_⟩
    · exact sh_tl ((sh_2 (sh3 sh_found) (sh3 hr.sh)).mono (by decide) (by decide))
    · have := RowOk.plain r
      simp [eL, eD, PyData.plain, PyData.plainAll, this]
    · exact Gd.three hd_found (sh_lift sh_found) rfl (sh_lift hr.sh) (RowOk.plain r) z0 rfl
theorem RowOk.rev {r : List Int} (h : RowOk r) : RowOk r.reverse := ⟨by rw [List.length_reverse]; exact h.few, fun x hx => h.small x (List.mem_reverse.mp hx)⟩
theorem found_row {r : List Int} (h : RowOk r) : Gd (.tuple [.str "found", eT eInt r]) := Gd.two hd_found (sh_lift sh_found) rfl (sh_lift h.sh) (RowOk.plain r)
theorem all_rows {rows : List (List Int)} {m : Nat} (hm : rows.length ≤ m) (h : ∀ r ∈ rows, RowOk r) : AllG m (rows.map fun r => eP (eC eStr (eC (eT eInt) eU)) (("found" : Str), r, ())) := ⟨by rw [List.length_map]; exact hm, fun v hv => by
  obtain ⟨r, hr, rfl⟩ := List.mem_map.mp hv
  exact found_row (h r hr)⟩
theorem ts_04 : TS 0 2 = [[1, 1, 2]] := by
  unfold TS srt
  rw [show tupsL 0 2 = [[1, 1, 2]] by decide +kernel]
  exact List.mergeSort_of_pairwise (by decide +kernel)
theorem last_fault : faultD 0 2 [0, 1] (eP (eC eStr (eC (eP (eC eInt (eC eInt (eC eInt eU)))) eU)) (("found" : Str), (1, 1, 2, ()), ())) = .tuple [.str "colors", .int 2] := by
  show faultD 0 2 [0, 1] (.tuple [.str "found", .tuple [.int 1, .int 1, .int 2]]) = _
  unfold faultD
  dsimp only
  rw [if_neg (show ¬ ((("found" : String) : Str) = (("free" : String) : Str)) by decide +kernel), if_pos (show ((("found" : String) : Str) = (("found" : String) : Str)) from rfl), if_pos (by decide), show ([.int 1, .int 1, .int 2] : List PyData).mapM asInt = some [1, 1, 2] from rfl]
  dsimp only
  rw [if_pos (by rw [ts_04]; simp), show colF [0, 1] [1, 1, 2] = some 2 by decide +kernel]
theorem p_law : Sat m_law fun r => r = true := by
  unfold m_law
  simp only [bp, bind_ret, optM_some, Pz.bind_assoc, eD]
  rw [rangeM_sm (lo := 0) (hi := 6) (by omega) (by omega) (by omega) (by omega), bp]
  refine Sat.bind2 (Sat.forO (I := fun _ => True) trivial fun b lap hlap _ => ?_) fun o ho => ?_
  · rw [sm (xs := [0, 0, 2, 3, 3, 4]) (by decide), bp]
    refine Sat.bind2 (Sat.ofList (Q := fun k => (k = 0 ∨ 2 ≤ k) ∧ k ≤ 5) (by simp) (by simp) fun x hx => by simp at hx; omega) fun k hk => ?_
    obtain ⟨hk, hk5⟩ := hk
    refine Sat.bind2 (Sat.pick (Q := fun n => 0 ≤ n ∧ n ≤ 13) (by omega) fun r h1 h2 => by omega) fun n' hn => ?_
    obtain ⟨n, rfl⟩ : ∃ n, n' = n - 1 := ⟨n' + 1, by omega⟩
    rw [show 1 + (n - 1) = n by omega]
    have h0 : 1 ≤ n := by omega
    have h14 : n ≤ 14 := by omega
    rw [rangeM_sm (lo := 0) (by omega) (by omega) (by omega) (by omega), bp]
    refine Sat.bind2 (Sat.compAll (Q := fun y => 0 ≤ y ∧ y ≤ 10) fun x _ => Sat.pick (by omega) fun r h1 h2 => by omega) fun cs hcs => ?_
    refine Sat.bind2 (Sat.pick (Q := fun _ => True) (by omega) fun r h1 h2 => trivial) fun z _ => ?_
    refine Sat.bind2 (Q := fun col : List Int => (col.length : Int) = n ∧ ∀ x ∈ col, 0 ≤ x ∧ x ≤ 10) ?_ fun col hcol => ?_
    · refine Sat.ite (fun _ => ?_) fun _ => .pure ⟨by rw [hcs.1, length_irange]; omega, hcs.2⟩
      rw [sm (xs := [0, 1, 1, 0]) (by decide), sm (xs := [0, 0, 1, 1]) (by decide), sm (xs := [0, 1, 2]) (by decide)]
      simp only [bp]
      rw [sm (by simp), bp]
      refine Sat.bind2 (Sat.ofList (Q := fun row : List Int => 3 ≤ row.length ∧ row.length ≤ 4 ∧ ∀ x ∈ row, 0 ≤ x ∧ x ≤ 10) (by simp) (by simp) fun x hx => by
        simp at hx
        rcases hx with rfl | rfl | rfl <;> exact ⟨by decide, by decide, by decide⟩) fun row hrow => ?_
      obtain ⟨hr1, hr2, hr3⟩ := hrow
      rw [show repTO row 5 = some (List.replicate 5 row).flatten by
        unfold repTO
        rw [if_pos ⟨by intro z; rw [z] at hr1; simp at hr1, by omega, by omega, by omega⟩]; rfl, optM_some, bp, cut_to _ (by omega)]
      refine .pure ⟨?_, fun x hx => ?_⟩
      · rw [List.length_take, List.length_flatten]
        simp
        omega
      · have := List.mem_of_mem_take hx
        rw [List.mem_flatten] at this
        obtain ⟨l, h1, h2⟩ := this
        rw [List.mem_replicate] at h1
        rw [h1.2] at h2
        exact hr3 x h2
    · obtain ⟨hl, hc⟩ := hcol
      have h30 : n ≤ 30 := by omega
      have h0' : 0 ≤ n := by omega
      simp only [col_shown h30 hl hc, optM_some, bp, p_paper hk hk5 h0' h30 hl, p_found hk hk5 h0' h30 hl]
      obtain ⟨x0, r0, ep, ⟨z0, hz0⟩, shp, hx0, plp, hr0⟩ := paper_gd (col := col) hk hk5 h30
      have hcase : (if (!decide ((TS k n).filter (oneC col) = [])) = true then Pz.bindM (optM (atI ((TS k n).filter (oneC col)) 0)) fun a => pureM (eP (eC eStr (eC (eT eInt) eU)) (("found" : Str), a, ())) else pureM (eP (eC eStr eU) (("free" : Str), ()))) = pureM (paperD k n col) := by
        have fh := found_head (k := k) (n := n) (col := col)
        unfold paperD
        cases hf : (TS k n).find? (oneC col) with
        | none => rw [fh.1.mpr hf]; rfl
        | some r =>
          have hne : ¬ ((TS k n).filter (oneC col) = []) := fun z => by rw [fh.1.mp z] at hf; cases hf
          rw [show (!decide ((TS k n).filter (oneC col) = [])) = true by simp only [Bool.not_eq_true', decide_eq_false_iff_not]; exact hne, fh.2 r hf]
          rfl
      have hrp : reprO (paperD k n col) = some (paperD k n col).shown := by rw [ep]; exact reprO_ok (wt := 300) (shp.mono (by decide) (Nat.le_refl _))
      rw [hrp, optM_some, bp, sm (xs := []) (by decide), bp, hcase, bp, hrp, optM_some, bp]
      simp only [decide_true, Bool.not_true, Bool.false_eq_true, if_false]
      rw [p_tups hk hk5 h0' h30, bp, sm (xs := [1, 2, 4]) (by decide), sm (xs := [1, 1, 2]) (by decide), sm (xs := [1]) (by decide), mulO_ok (by omega)]
      simp only [optM_some, bp]
      rw [sm (xs := [n, n, 2 * n]) (by simp)]
      simp only [optM_some, bp]
      rw [sm (xs := ([] : List Int)) (by decide)]
      simp only [bp]
      rw [sm (xs := [[1, 2, 4], [1, 1, 2], [n, n, 2 * n], [1], []]) (by simp), bp, catO_ok (by have := ts_len (k := k) h0' h30; simp [sizeLine]; omega), optM_some, bp, show powO 10 20 = some 100000000000000000000 by decide +kernel, optM_some, bp, sm (by simp), bp]
      refine Sat.bind2 (Sat.ofList (Q := OddOk) (by simp) (by simp) odds) fun odd hodd => ?_
      have hrows : ∀ r ∈ TS k n ++ [[1, 2, 4], [1, 1, 2], [n, n, 2 * n], [1], []], RowOk r := fun r hr => by
        rcases List.mem_append.mp hr with hr | hr
        · have := tups_in hk hk5 (ts_mem.mp hr)
          exact ⟨this.2.2, fun x hx => by have := this.2.1 x hx; omega⟩
        · simp at hr
          rcases hr with rfl | rfl | rfl | rfl | rfl <;> exact ⟨by simp, fun x hx => by simp at hx <;> omega⟩
      refine Sat.bind2 (Sat.ofList (Q := RowOk) (by simp) (by have := ts_len (k := k) h0' h30; simp; omega) hrows) fun row hrow => ?_
      have hP : paperD k n col = .tuple [.str "free"] ∨ ∃ r, RowOk r ∧ paperD k n col = .tuple [.str "found", eT eInt r] := by
        unfold paperD
        cases hf : (TS k n).find? (oneC col) with
        | none => exact .inl rfl
        | some r => exact .inr ⟨r, hrows r (List.mem_append_left _ (List.mem_of_find?_eq_some hf)), rfl⟩
      obtain ⟨ts, hts, hts2, g1, g2, g3⟩ := told3 hP
      rw [hts, optM_some, bp, bp, catO_ok (by simp [sizeLine]; omega), optM_some]
      simp only [bp]
      have a1 : AllG 9 [paperD k n col, eL eD ts, eT eD (ts ++ [eInt 0]), eP (eC eStr eU) (("free" : Str), ()), eP (eC eStr (eC (eT eInt) eU)) (("found" : Str), row, ()), eP (eC eStr (eC eD eU)) (("found" : Str), odd, ()), eP (eC eD eU) (odd, ()), eP (eC eStr eU) (("found" : Str), ()), eNon ()] := by
        obtain ⟨zo, hzo⟩ := hodd.head
        exact all_cons g1 (all_cons g2 (all_cons g3 (all_cons (Gd.one hd_free (sh_lift sh_free) rfl) (all_cons (found_row hrow) (all_cons (Gd.two hd_found (sh_lift sh_found) rfl (sh_lift hodd.sh) hodd.plain) (all_cons (Gd.one hzo (sh_lift hodd.sh) hodd.plain) (all_cons (Gd.one hd_found (sh_lift sh_found) rfl) (all_cons (.flat (Sh.non.mono (by decide) (by decide)) rfl (fun ds => by simp [eNon])) all_nil))))))))
      have a2 : AllG 10 ([paperD k n col, eL eD ts, eT eD (ts ++ [eInt 0]), eP (eC eStr eU) (("free" : Str), ()), eP (eC eStr (eC (eT eInt) eU)) (("found" : Str), row, ()), eP (eC eStr (eC eD eU)) (("found" : Str), odd, ()), eP (eC eD eU) (odd, ()), eP (eC eStr eU) (("found" : Str), ()), eNon ()] ++ [eP eU ()]) := by
        refine ⟨by simp, fun v hv => ?_⟩
        rcases List.mem_append.mp hv with hv | hv
        · exact a1.2 v hv
        · rw [List.mem_singleton] at hv
          subst hv
          exact ⟨sh_nil.mono (by decide) (by decide), rfl, fun x r e => by simp [eP, eU] at e⟩
      rw [sm a1.1.trans_100, bp, appM_ok (by have := a1.1; unfold sizeLine; omega), bp, compM_map (fun r => eP (eC eStr (eC (eT eInt) eU)) (("found" : Str), r, ())) fun x _ => rfl, bp]
      generalize [paperD k n col, eL eD ts, eT eD (ts ++ [eInt 0]), eP (eC eStr eU) (("free" : Str), ()), eP (eC eStr (eC (eT eInt) eU)) (("found" : Str), row, ()), eP (eC eStr (eC eD eU)) (("found" : Str), odd, ()), eP (eC eD eU) (odd, ()), eP (eC eStr eU) (("found" : Str), ()), eNon ()] ++ [eP eU ()] = l1 at a2 ⊢
      have a3 : AllG 6 ((cutL (TS k n ++ [[1, 2, 4], [1, 1, 2], [n, n, 2 * n], [1], []]) none (some 6)).map fun r => eP (eC eStr (eC (eT eInt) eU)) (("found" : Str), r, ())) := by
        rw [cut_to _ (by omega)]
        exact all_rows (by rw [List.length_take]; exact Nat.min_le_left _ _) fun r hr => hrows r (List.mem_of_mem_take hr)
      refine Sat.bind2 (sat_cat a2 a3) fun l2 b2 => ?_
      have a4 : AllG 3 [eP (eC eStr (eC (eL eInt) eU)) (("found" : Str), row, ()), eP (eC eStr (eC (eT eInt) eU)) (("found" : Str), row.reverse, ()), eStr ("free" : Str)] :=
        all_cons (Gd.two hd_found (sh_lift sh_found) rfl (sh_lift hrow.shL) (RowOk.plainL row)) (all_cons (found_row hrow.rev) (all_cons (.flat (sh_free.mono (by decide) (by decide)) rfl (fun ds => by simp [eStr])) all_nil))
      rw [sm a4.1.trans_100, bp]
      refine Sat.bind2 (sat_cat b2 a4) fun l3 b3 => ?_
      have a5 : AllG 3 [eP (eC eStr eU) (("Free" : Str), ()), eP (eC eStr (eC (eT eInt) (eC (eT eInt) eU))) (("found" : Str), row, row, ()), eP (eC eD (eC (eT eInt) eU)) (odd, row, ())] := by
        obtain ⟨zo, hzo⟩ := hodd.head
        exact all_cons (Gd.one hd_Free (sh_lift sh_Free) rfl) (all_cons (Gd.three hd_found (sh_lift sh_found) rfl (sh_lift hrow.sh) (RowOk.plain row) (sh_lift hrow.sh) (RowOk.plain row)) (all_cons (Gd.two hzo (sh_lift hodd.sh) hodd.plain (sh_lift hrow.sh) (RowOk.plain row)) all_nil))
      rw [sm a5.1.trans_100, bp]
      refine Sat.bind2 (sat_cat b3 a5) fun l4 b4 => ?_
      rw [compM_map (fun r => eP (eC eStr (eC (eT eInt) eU)) (("found" : Str), r, ())) fun x _ => rfl, bp]
      have a6 : AllG 500 ((cutL ((TS k n).filter (oneC col)) (some (-2)) none).map fun r => eP (eC eStr (eC (eT eInt) eU)) (("found" : Str), r, ())) := by
        have hsub : ∀ r ∈ cutL ((TS k n).filter (oneC col)) (some (-2)) none, r ∈ (TS k n).filter (oneC col) := fun r hr => by
          unfold cutL at hr
          exact List.mem_of_mem_drop (List.mem_of_mem_take hr)
        refine all_rows ?_ fun r hr => hrows r (List.mem_append_left _ ((List.mem_filter.mp (hsub r hr)).1))
        unfold cutL HT.sIx
        dsimp only
        rw [List.length_take]
        rw [if_pos (by omega)]
        omega
      refine Sat.bind2 (sat_cat b4 a6) fun l5 b5 => ?_
      refine Sat.bind2 (Sat.forO (I := fun _ => True) trivial fun b v hv _ => ?_) fun o ho => ?_
      · have g := b5.2 v hv
        obtain ⟨zv, hzv⟩ := gd_repr g
        obtain ⟨zf, hzf⟩ := fault_sh (col := col) hk hk5 h30 v
        rw [p_lfault hk hk5 h0' h30 hl g.plain (Nat.le_trans g.sh.dep (by decide)) g.head, bp, hzv, optM_some, bp, p_judge hk hk5 h0' h30 hl g.plain (Nat.le_trans g.sh.dep (by decide)), bp, hzf, optM_some, bp, bp]
        simp only [decide_true, Bool.not_true, Bool.false_eq_true, if_false, bp]
        cases hn : Pz.isNon (faultD k n col v) with
        | false => simp only [Bool.false_eq_true, if_false, bp]; exact .pure ⟨(), rfl, trivial⟩
        | true =>
          have e0 : faultD k n col v = .none := by cases q : faultD k n col v <;> rw [q] at hn <;> first | rfl | cases hn
          obtain ⟨x, r, rfl, r2, e2⟩ := fault_none e0
          rw [e2] at hts
          cases hts
          have hx : x = .str "free" ∨ x = .str "found" := by
            rcases hP with q | ⟨r, _, q⟩
            · rw [e2] at q; cases q; exact .inl rfl
            · rw [e2] at q; cases q; exact .inr rfl
          simp only [if_true, asTup_t, optM_some, bp, at0]
          have : (eqD x x) = some true := by
            rcases hx with rfl | rfl
            · exact eqD_str _ _ |>.trans (by simp)
            · exact eqD_str _ _ |>.trans (by simp)
          rw [this]
          exact .pure ⟨(), rfl, trivial⟩
      · obtain ⟨b, rfl, _⟩ := ho
        exact .pure ⟨(), rfl, trivial⟩
  · obtain ⟨b, rfl, _⟩ := ho
    unfold caseO
    dsimp only
    rw [sm (xs := [0, 1]) (by decide), bp, p_judge (.inl rfl) (by decide) (n := 2) (by decide) (by decide) rfl (by decide +kernel) (by decide +kernel), bp, last_fault]
    exact Sat.opt (a := true) (by decide +kernel) rfl
end Lw

namespace Lw
open PySem PySem.Spec PyProof.Rows L2 Pz
theorem all_mk {l : PySem.W.OpenLaw} {w : World} {K : PySem.W.Frag} {h : Heap} {mg : Str → Option Value} {fa f1 f2 f3 f4 f5 f6 f7 f8 f9 f10 f11 f12 f13 f14 f15 f16 f17 : Addr} (X : K.In h) (G : h.Ns mainGlobals mg) (hfa : mg "law" = some (.ref fa))
    {od1 an1 od2 an2 od3 an3 od4 an4 od5 an5 od6 an6 od7 an7 od8 an8 od9 an9 od10 an10 od11 an11 od12 an12 od13 an13 od14 an14 od15 an15 od16 an16 od17 an17 : Option Addr} {sl1 sl2 sl3 sl4 sl5 sl6 sl7 sl8 sl9 sl10 sl11 sl12 sl13 sl14 sl15 sl16 sl17 : Array (Option Value)} {oc1 kV1 dc1 pm1 cd1 ct1 oc2 kV2 dc2 pm2 cd2 ct2 oc3 kV3 dc3 pm3 cd3 ct3 oc4 kV4 dc4 pm4 cd4 ct4 oc5 kV5 dc5 pm5 cd5 ct5 oc6 kV6 dc6 pm6 cd6 ct6 oc7 kV7 dc7 pm7 cd7 ct7 oc8 kV8 dc8 pm8 cd8 ct8 oc9 kV9 dc9 pm9 cd9 ct9 oc10 kV10 dc10 pm10 cd10 ct10 oc11 kV11 dc11 pm11 cd11 ct11 oc12 kV12 dc12 pm12 cd12 ct12 oc13 kV13 dc13 pm13 cd13 ct13 oc14 kV14 dc14 pm14 cd14 ct14 oc15 kV15 dc15 pm15 cd15 ct15 oc16 kV16 dc16 pm16 cd16 ct16 oc17 kV17 dc17 pm17 cd17 ct17 : Value}
    (a1 : PySem.W.nsIn K mainGlobals "_law_source" = some (some (.ref f1))) (l1 : K.lookup f1 = some ⟨oc1, od1, .func (PySem.W.fnOf "_law_source" "_law_source" (defArgs sSource) (defBody sSource) (defScope sSource) .none kV1 dc1 pm1 an1 cd1 ct1), sl1⟩) (c1 : PySem.W.codeIn K cd1 "_law_source" = true) (k1 : PySem.W.keepIn K (.ref f1) = true)
    (a2 : PySem.W.nsIn K mainGlobals "_law_pick" = some (some (.ref f2))) (l2 : K.lookup f2 = some ⟨oc2, od2, .func (PySem.W.fnOf "_law_pick" "_law_pick" (defArgs sPick) (defBody sPick) (defScope sPick) .none kV2 dc2 pm2 an2 cd2 ct2), sl2⟩) (c2 : PySem.W.codeIn K cd2 "_law_pick" = true) (k2 : PySem.W.keepIn K (.ref f2) = true)
    (a3 : PySem.W.nsIn K mainGlobals "_law_of" = some (some (.ref f3))) (l3 : K.lookup f3 = some ⟨oc3, od3, .func (PySem.W.fnOf "_law_of" "_law_of" (defArgs sOf) (defBody sOf) (defScope sOf) .none kV3 dc3 pm3 an3 cd3 ct3), sl3⟩) (c3 : PySem.W.codeIn K cd3 "_law_of" = true) (k3 : PySem.W.keepIn K (.ref f3) = true)
    (a4 : PySem.W.nsIn K mainGlobals "is_whole_number" = some (some (.ref f4))) (l4 : K.lookup f4 = some ⟨oc4, od4, .func (PySem.W.fnOf "is_whole_number" "is_whole_number" (defArgs s_is_whole_number) (defBody s_is_whole_number) (defScope s_is_whole_number) .none kV4 dc4 pm4 an4 cd4 ct4), sl4⟩) (c4 : PySem.W.codeIn K cd4 "is_whole_number" = true) (k4 : PySem.W.keepIn K (.ref f4) = true)
    (a5 : PySem.W.nsIn K mainGlobals "sums_to" = some (some (.ref f5))) (l5 : K.lookup f5 = some ⟨oc5, od5, .func (PySem.W.fnOf "sums_to" "sums_to" (defArgs s_sums_to) (defBody s_sums_to) (defScope s_sums_to) .none kV5 dc5 pm5 an5 cd5 ct5), sl5⟩) (c5 : PySem.W.codeIn K cd5 "sums_to" = true) (k5 : PySem.W.keepIn K (.ref f5) = true)
    (a6 : PySem.W.nsIn K mainGlobals "rows_to" = some (some (.ref f6))) (l6 : K.lookup f6 = some ⟨oc6, od6, .func (PySem.W.fnOf "rows_to" "rows_to" (defArgs s_rows_to) (defBody s_rows_to) (defScope s_rows_to) .none kV6 dc6 pm6 an6 cd6 ct6), sl6⟩) (c6 : PySem.W.codeIn K cd6 "rows_to" = true) (k6 : PySem.W.keepIn K (.ref f6) = true)
    (a7 : PySem.W.nsIn K mainGlobals "shape_tuples" = some (some (.ref f7))) (l7 : K.lookup f7 = some ⟨oc7, od7, .func (PySem.W.fnOf "shape_tuples" "shape_tuples" (defArgs s_shape_tuples) (defBody s_shape_tuples) (defScope s_shape_tuples) .none kV7 dc7 pm7 an7 cd7 ct7), sl7⟩) (c7 : PySem.W.codeIn K cd7 "shape_tuples" = true) (k7 : PySem.W.keepIn K (.ref f7) = true)
    (a8 : PySem.W.nsIn K mainGlobals "is_of_one_color" = some (some (.ref f8))) (l8 : K.lookup f8 = some ⟨oc8, od8, .func (PySem.W.fnOf "is_of_one_color" "is_of_one_color" (defArgs s_is_of_one_color) (defBody s_is_of_one_color) (defScope s_is_of_one_color) .none kV8 dc8 pm8 an8 cd8 ct8), sl8⟩) (c8 : PySem.W.codeIn K cd8 "is_of_one_color" = true) (k8 : PySem.W.keepIn K (.ref f8) = true)
    (a9 : PySem.W.nsIn K mainGlobals "first_found" = some (some (.ref f9))) (l9 : K.lookup f9 = some ⟨oc9, od9, .func (PySem.W.fnOf "first_found" "first_found" (defArgs s_first_found) (defBody s_first_found) (defScope s_first_found) .none kV9 dc9 pm9 an9 cd9 ct9), sl9⟩) (c9 : PySem.W.codeIn K cd9 "first_found" = true) (k9 : PySem.W.keepIn K (.ref f9) = true)
    (a10 : PySem.W.nsIn K mainGlobals "free_paper" = some (some (.ref f10))) (l10 : K.lookup f10 = some ⟨oc10, od10, .func (PySem.W.fnOf "free_paper" "free_paper" (defArgs s_free_paper) (defBody s_free_paper) (defScope s_free_paper) .none kV10 dc10 pm10 an10 cd10 ct10), sl10⟩) (c10 : PySem.W.codeIn K cd10 "free_paper" = true) (k10 : PySem.W.keepIn K (.ref f10) = true)
    (a11 : PySem.W.nsIn K mainGlobals "is_free_form" = some (some (.ref f11))) (l11 : K.lookup f11 = some ⟨oc11, od11, .func (PySem.W.fnOf "is_free_form" "is_free_form" (defArgs s_is_free_form) (defBody s_is_free_form) (defScope s_is_free_form) .none kV11 dc11 pm11 an11 cd11 ct11), sl11⟩) (c11 : PySem.W.codeIn K cd11 "is_free_form" = true) (k11 : PySem.W.keepIn K (.ref f11) = true)
    (a12 : PySem.W.nsIn K mainGlobals "color_fault" = some (some (.ref f12))) (l12 : K.lookup f12 = some ⟨oc12, od12, .func (PySem.W.fnOf "color_fault" "color_fault" (defArgs s_color_fault) (defBody s_color_fault) (defScope s_color_fault) .none kV12 dc12 pm12 an12 cd12 ct12), sl12⟩) (c12 : PySem.W.codeIn K cd12 "color_fault" = true) (k12 : PySem.W.keepIn K (.ref f12) = true)
    (a13 : PySem.W.nsIn K mainGlobals "judge_free" = some (some (.ref f13))) (l13 : K.lookup f13 = some ⟨oc13, od13, .func (PySem.W.fnOf "judge_free" "judge_free" (defArgs s_judge_free) (defBody s_judge_free) (defScope s_judge_free) .none kV13 dc13 pm13 an13 cd13 ct13), sl13⟩) (c13 : PySem.W.codeIn K cd13 "judge_free" = true) (k13 : PySem.W.keepIn K (.ref f13) = true)
    (a14 : PySem.W.nsIn K mainGlobals "_law_tuples" = some (some (.ref f14))) (l14 : K.lookup f14 = some ⟨oc14, od14, .func (PySem.W.fnOf "_law_tuples" "_law_tuples" (defArgs s__law_tuples) (defBody s__law_tuples) (defScope s__law_tuples) .none kV14 dc14 pm14 an14 cd14 ct14), sl14⟩) (c14 : PySem.W.codeIn K cd14 "_law_tuples" = true) (k14 : PySem.W.keepIn K (.ref f14) = true)
    (a15 : PySem.W.nsIn K mainGlobals "_law_found" = some (some (.ref f15))) (l15 : K.lookup f15 = some ⟨oc15, od15, .func (PySem.W.fnOf "_law_found" "_law_found" (defArgs s__law_found) (defBody s__law_found) (defScope s__law_found) .none kV15 dc15 pm15 an15 cd15 ct15), sl15⟩) (c15 : PySem.W.codeIn K cd15 "_law_found" = true) (k15 : PySem.W.keepIn K (.ref f15) = true)
    (a16 : PySem.W.nsIn K mainGlobals "_law_fault" = some (some (.ref f16))) (l16 : K.lookup f16 = some ⟨oc16, od16, .func (PySem.W.fnOf "_law_fault" "_law_fault" (defArgs s__law_fault) (defBody s__law_fault) (defScope s__law_fault) .none kV16 dc16 pm16 an16 cd16 ct16), sl16⟩) (c16 : PySem.W.codeIn K cd16 "_law_fault" = true) (k16 : PySem.W.keepIn K (.ref f16) = true)
    (a17 : PySem.W.nsIn K mainGlobals "law" = some (some (.ref f17))) (l17 : K.lookup f17 = some ⟨oc17, od17, .func (PySem.W.fnOf "law" "law" (defArgs s_law) (defBody s_law) (defScope s_law) .none kV17 dc17 pm17 an17 cd17 ct17), sl17⟩) (c17 : PySem.W.codeIn K cd17 "law" = true) (k17 : PySem.W.keepIn K (.ref f17) = true)
    (z_len : PySem.W.nsIn K mainGlobals "len" = some none) (z_int : PySem.W.nsIn K mainGlobals "int" = some none) (z_abs : PySem.W.nsIn K mainGlobals "abs" = some none) (z_range : PySem.W.nsIn K mainGlobals "range" = some none) (z_sorted : PySem.W.nsIn K mainGlobals "sorted" = some none) (z_sum : PySem.W.nsIn K mainGlobals "sum" = some none) (z_all : PySem.W.nsIn K mainGlobals "all" = some none) (z_any : PySem.W.nsIn K mainGlobals "any" = some none) (z_tuple : PySem.W.nsIn K mainGlobals "tuple" = some none) (z_list : PySem.W.nsIn K mainGlobals "list" = some none) (z_max : PySem.W.nsIn K mainGlobals "max" = some none) (z_min : PySem.W.nsIn K mainGlobals "min" = some none) (z_repr : PySem.W.nsIn K mainGlobals "repr" = some none) (z_enumerate : PySem.W.nsIn K mainGlobals "enumerate" = some none) (z_zip : PySem.W.nsIn K mainGlobals "zip" = some none) (z_isinstance : PySem.W.nsIn K mainGlobals "isinstance" = some none) (z_bool : PySem.W.nsIn K mainGlobals "bool" = some none) (z_str : PySem.W.nsIn K mainGlobals "str" = some none) (z_dict : PySem.W.nsIn K mainGlobals "dict" = some none) :
    ∃ fd : FuncData, (∀ (s : Shared) (v : Value), BindsTo s fd ⟨[v], []⟩ [("script", v)]) ∧ ∀ base : Heap, K.In base → base.Ns mainGlobals mg → FnG l.prog w K mg base 6 fa fd ["script"] (SpLaw K) := by
  have e := hfa.symm.trans (PySem.W.mg_of X G a17)
  cases e
  have B : Bl mg := ⟨PySem.W.mg_none_of X G z_len, PySem.W.mg_none_of X G z_int, PySem.W.mg_none_of X G z_abs, PySem.W.mg_none_of X G z_range, PySem.W.mg_none_of X G z_sorted, PySem.W.mg_none_of X G z_sum, PySem.W.mg_none_of X G z_all, PySem.W.mg_none_of X G z_any, PySem.W.mg_none_of X G z_tuple, PySem.W.mg_none_of X G z_list, PySem.W.mg_none_of X G z_max, PySem.W.mg_none_of X G z_min, PySem.W.mg_none_of X G z_repr, PySem.W.mg_none_of X G z_enumerate, PySem.W.mg_none_of X G z_zip, PySem.W.mg_none_of X G z_isinstance, PySem.W.mg_none_of X G z_bool, PySem.W.mg_none_of X G z_str, PySem.W.mg_none_of X G z_dict⟩
  have F1 := fun_mk (st := sSource) l1 c1 k1
  have b1 := F1.binds (ps := ["script"]) fun _ _ _ _ _ _ us hl => match us, hl with | [_], _ => rfl
  have C1 : Cal K mg "_law_source" f1 _ ["script"] := ⟨PySem.W.mg_of X G a1, k1, b1⟩
  have F2 := fun_mk (st := sPick) l2 c2 k2
  have b2 := F2.binds (ps := ["source", "most"]) fun _ _ _ _ _ _ us hl => match us, hl with | [_, _], _ => rfl
  have C2 : Cal K mg "_law_pick" f2 _ ["source", "most"] := ⟨PySem.W.mg_of X G a2, k2, b2⟩
  have F3 := fun_mk (st := sOf) l3 c3 k3
  have b3 := F3.binds (ps := ["source", "some"]) fun _ _ _ _ _ _ us hl => match us, hl with | [_, _], _ => rfl
  have C3 : Cal K mg "_law_of" f3 _ ["source", "some"] := ⟨PySem.W.mg_of X G a3, k3, b3⟩
  have F4 := fun_mk (st := s_is_whole_number) l4 c4 k4
  have b4 := F4.binds (ps := ["value"]) fun _ _ _ _ _ _ us hl => match us, hl with | [_], _ => rfl
  have C4 : Cal K mg "is_whole_number" f4 _ ["value"] := ⟨PySem.W.mg_of X G a4, k4, b4⟩
  have F5 := fun_mk (st := s_sums_to) l5 c5 k5
  have b5 := F5.binds (ps := ["many"]) fun _ _ _ _ _ _ us hl => match us, hl with | [_], _ => rfl
  have C5 : Cal K mg "sums_to" f5 _ ["many"] := ⟨PySem.W.mg_of X G a5, k5, b5⟩
  have F6 := fun_mk (st := s_rows_to) l6 c6 k6
  have b6 := F6.binds (ps := ["length", "many"]) fun _ _ _ _ _ _ us hl => match us, hl with | [_, _], _ => rfl
  have C6 : Cal K mg "rows_to" f6 _ ["length", "many"] := ⟨PySem.W.mg_of X G a6, k6, b6⟩
  have F7 := fun_mk (st := s_shape_tuples) l7 c7 k7
  have b7 := F7.binds (ps := ["shape", "many"]) fun _ _ _ _ _ _ us hl => match us, hl with | [_, _], _ => rfl
  have C7 : Cal K mg "shape_tuples" f7 _ ["shape", "many"] := ⟨PySem.W.mg_of X G a7, k7, b7⟩
  have F8 := fun_mk (st := s_is_of_one_color) l8 c8 k8
  have b8 := F8.binds (ps := ["coloring", "numbers"]) fun _ _ _ _ _ _ us hl => match us, hl with | [_, _], _ => rfl
  have C8 : Cal K mg "is_of_one_color" f8 _ ["coloring", "numbers"] := ⟨PySem.W.mg_of X G a8, k8, b8⟩
  have F9 := fun_mk (st := s_first_found) l9 c9 k9
  have b9 := F9.binds (ps := ["shape", "coloring"]) fun _ _ _ _ _ _ us hl => match us, hl with | [_, _], _ => rfl
  have C9 : Cal K mg "first_found" f9 _ ["shape", "coloring"] := ⟨PySem.W.mg_of X G a9, k9, b9⟩
  have F10 := fun_mk (st := s_free_paper) l10 c10 k10
  have b10 := F10.binds (ps := ["shape", "coloring"]) fun _ _ _ _ _ _ us hl => match us, hl with | [_, _], _ => rfl
  have C10 : Cal K mg "free_paper" f10 _ ["shape", "coloring"] := ⟨PySem.W.mg_of X G a10, k10, b10⟩
  have F11 := fun_mk (st := s_is_free_form) l11 c11 k11
  have b11 := F11.binds (ps := ["value"]) fun _ _ _ _ _ _ us hl => match us, hl with | [_], _ => rfl
  have C11 : Cal K mg "is_free_form" f11 _ ["value"] := ⟨PySem.W.mg_of X G a11, k11, b11⟩
  have F12 := fun_mk (st := s_color_fault) l12 c12 k12
  have b12 := F12.binds (ps := ["coloring", "numbers"]) fun _ _ _ _ _ _ us hl => match us, hl with | [_, _], _ => rfl
  have C12 : Cal K mg "color_fault" f12 _ ["coloring", "numbers"] := ⟨PySem.W.mg_of X G a12, k12, b12⟩
  have F13 := fun_mk (st := s_judge_free) l13 c13 k13
  have b13 := F13.binds (ps := ["shape", "coloring", "value"]) fun _ _ _ _ _ _ us hl => match us, hl with | [_, _, _], _ => rfl
  have C13 : Cal K mg "judge_free" f13 _ ["shape", "coloring", "value"] := ⟨PySem.W.mg_of X G a13, k13, b13⟩
  have F14 := fun_mk (st := s__law_tuples) l14 c14 k14
  have b14 := F14.binds (ps := ["shape", "many"]) fun _ _ _ _ _ _ us hl => match us, hl with | [_, _], _ => rfl
  have C14 : Cal K mg "_law_tuples" f14 _ ["shape", "many"] := ⟨PySem.W.mg_of X G a14, k14, b14⟩
  have F15 := fun_mk (st := s__law_found) l15 c15 k15
  have b15 := F15.binds (ps := ["shape", "coloring"]) fun _ _ _ _ _ _ us hl => match us, hl with | [_, _], _ => rfl
  have C15 : Cal K mg "_law_found" f15 _ ["shape", "coloring"] := ⟨PySem.W.mg_of X G a15, k15, b15⟩
  have F16 := fun_mk (st := s__law_fault) l16 c16 k16
  have b16 := F16.binds (ps := ["shape", "coloring", "value"]) fun _ _ _ _ _ _ us hl => match us, hl with | [_, _, _], _ => rfl
  have C16 : Cal K mg "_law_fault" f16 _ ["shape", "coloring", "value"] := ⟨PySem.W.mg_of X G a16, k16, b16⟩
  have F17 := fun_mk (st := s_law) l17 c17 k17
  have b17 := F17.binds (ps := ["script"]) fun _ _ _ _ _ _ us hl => match us, hl with | [_], _ => rfl
  refine ⟨PySem.W.fnOf "law" "law" (defArgs s_law) (defBody s_law) (defScope s_law) .none kV17 dc17 pm17 an17 cd17 ct17, fun s v => .of_eq rfl, fun base _ _ => ?_⟩
  have G1 := ok_source (P := l.prog) (w := w) (base := base) F1 B.b_abs B.b_int
  have G2 := ok_pick (P := l.prog) (w := w) (base := base) F2 B.b_len B.b_int
  have G3 := ok_of (P := l.prog) (w := w) (base := base) F3 B C2 G2
  have G4 := ok_is_whole_number (P := l.prog) (w := w) (base := base) F4 B
  have G5 := ok_sums_to (P := l.prog) (w := w) (base := base) F5 B
  have G6 := ok_rows_to (P := l.prog) (w := w) (base := base) F6 B
  have G7 := ok_shape_tuples (P := l.prog) (w := w) (base := base) F7 B C5 G5 C6 G6
  have G8 := ok_is_of_one_color (P := l.prog) (w := w) (base := base) F8 B
  have G9 := ok_first_found (P := l.prog) (w := w) (base := base) F9 B C7 G7 C8 G8
  have G10 := ok_free_paper (P := l.prog) (w := w) (base := base) F10 B C9 G9
  have G11 := ok_is_free_form (P := l.prog) (w := w) (base := base) F11 B C4 G4
  have G12 := ok_color_fault (P := l.prog) (w := w) (base := base) F12 B
  have G13 := ok_judge_free (P := l.prog) (w := w) (base := base) F13 B C11 G11 C10 G10 C7 G7 C12 G12
  have G14 := ok__law_tuples (P := l.prog) (w := w) (base := base) F14 B
  have G15 := ok__law_found (P := l.prog) (w := w) (base := base) F15 B C14 G14
  have G16 := ok__law_fault (P := l.prog) (w := w) (base := base) F16 B C15 G15 C14 G14
  exact ok_law (P := l.prog) (w := w) (base := base) F17 B C1 G1 C3 G3 C2 G2 C10 G10 C15 G15 C14 G14 C16 G16 C13 G13 p_law
end Lw
open PySem PySem.W PyProof.Rows
set_option maxHeartbeats 0 in
theorem PySem.Challenge.cw_lotsoflots_k85_free_papers_judged_holds : PySem.Challenge.rw_lotsoflots_k85_free_papers_judged.Holds := by
  w_on; o_law; k_head; (case hw => w_witness2)
  k_fill
  refine Pz.law_walk (l := PySem.Challenge.rw_lotsoflots_k85_free_papers_judged) (k := 6) (x := "script") rfl (by rfl) ⟨rfl, by decide, by decide⟩ (fun w h Y => PySem.W.kIn_of Y) ?F
  case F =>
    intro w mg fa h KX G hmg
    refine' Lw.all_mk KX G hmg ?a1 ?l1 ?c1 ?k1 ?a2 ?l2 ?c2 ?k2 ?a3 ?l3 ?c3 ?k3 ?a4 ?l4 ?c4 ?k4 ?a5 ?l5 ?c5 ?k5 ?a6 ?l6 ?c6 ?k6 ?a7 ?l7 ?c7 ?k7 ?a8 ?l8 ?c8 ?k8 ?a9 ?l9 ?c9 ?k9 ?a10 ?l10 ?c10 ?k10 ?a11 ?l11 ?c11 ?k11 ?a12 ?l12 ?c12 ?k12 ?a13 ?l13 ?c13 ?k13 ?a14 ?l14 ?c14 ?k14 ?a15 ?l15 ?c15 ?k15 ?a16 ?l16 ?c16 ?k16 ?a17 ?l17 ?c17 ?k17 ?z_len ?z_int ?z_abs ?z_range ?z_sorted ?z_sum ?z_all ?z_any ?z_tuple ?z_list ?z_max ?z_min ?z_repr ?z_enumerate ?z_zip ?z_isinstance ?z_bool ?z_str ?z_dict
    (case a1 => k_is); (case l1 => k_is); (case c1 => k_is); (case k1 => k_is); (case a2 => k_is); (case l2 => k_is); (case c2 => k_is); (case k2 => k_is); (case a3 => k_is); (case l3 => k_is); (case c3 => k_is); (case k3 => k_is); (case a4 => k_is); (case l4 => k_is); (case c4 => k_is); (case k4 => k_is); (case a5 => k_is); (case l5 => k_is); (case c5 => k_is); (case k5 => k_is); (case a6 => k_is); (case l6 => k_is); (case c6 => k_is); (case k6 => k_is); (case a7 => k_is); (case l7 => k_is); (case c7 => k_is); (case k7 => k_is); (case a8 => k_is); (case l8 => k_is); (case c8 => k_is); (case k8 => k_is); (case a9 => k_is); (case l9 => k_is); (case c9 => k_is); (case k9 => k_is); (case a10 => k_is); (case l10 => k_is); (case c10 => k_is); (case k10 => k_is); (case a11 => k_is); (case l11 => k_is); (case c11 => k_is); (case k11 => k_is); (case a12 => k_is); (case l12 => k_is); (case c12 => k_is); (case k12 => k_is); (case a13 => k_is); (case l13 => k_is); (case c13 => k_is); (case k13 => k_is); (case a14 => k_is); (case l14 => k_is); (case c14 => k_is); (case k14 => k_is); (case a15 => k_is); (case l15 => k_is); (case c15 => k_is); (case k15 => k_is); (case a16 => k_is); (case l16 => k_is); (case c16 => k_is); (case k16 => k_is); (case a17 => k_is); (case l17 => k_is); (case c17 => k_is); (case k17 => k_is); (case z_len => k_is); (case z_int => k_is); (case z_abs => k_is); (case z_range => k_is); (case z_sorted => k_is); (case z_sum => k_is); (case z_all => k_is); (case z_any => k_is); (case z_tuple => k_is); (case z_list => k_is); (case z_max => k_is); (case z_min => k_is); (case z_repr => k_is); (case z_enumerate => k_is); (case z_zip => k_is); (case z_isinstance => k_is); (case z_bool => k_is); (case z_str => k_is); (case z_dict => k_is)

